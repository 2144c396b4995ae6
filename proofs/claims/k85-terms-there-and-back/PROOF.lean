import PyProof.Rows.All
import Wide.All
import OpenK.AllK
import Wide.FinOn
import HandS.ForMost
import HandS.ForExc
import HandS.Gcd
import HandS.FStr
import HandS.IsInst
import HandS.ReplaceList
import HandS.Replace
import PySem.Challenge.RW_toldproducts_k85_whole_terms_there_and_b
set_option Elab.async false
set_option linter.all false
set_option maxRecDepth 100000
set_option maxHeartbeats 4000000
/-! Tp: a small language, its evaluator over data trees, own slots and a store of cells. -/
namespace Tp
open PySem

/-- data -/
inductive D where
  | non | bl (b : Bool) | int (i : Int) | str (s : List Nat)
  | tup (xs : List D) | lst (xs : List D) | dic (kvs : List (D × D))
  | ins (c : Nat) (fs : List (Nat × D)) | cell (n : Nat) | fn (n : Nat) | ro (xs : List D)
  deriving Inhabited

mutual
def D.beq : D → D → Bool
  | .non, .non => true
  | .bl a, .bl b => a == b
  | .int a, .int b => decide (a = b)
  | .str a, .str b => decide (a = b)
  | .tup a, .tup b => D.beqL a b
  | .lst a, .lst b => D.beqL a b
  | .dic a, .dic b => D.beqK a b
  | .ins c a, .ins d b => decide (c = d) && D.beqF a b
  | .cell a, .cell b => decide (a = b)
  | .fn a, .fn b => decide (a = b)
  | .ro a, .ro b => D.beqL a b
  | _, _ => false
def D.beqL : List D → List D → Bool
  | [], [] => true
  | a :: as, b :: bs => D.beq a b && D.beqL as bs
  | _, _ => false
def D.beqK : List (D × D) → List (D × D) → Bool
  | [], [] => true
  | (a, x) :: as, (b, y) :: bs => D.beq a b && D.beq x y && D.beqK as bs
  | _, _ => false
def D.beqF : List (Nat × D) → List (Nat × D) → Bool
  | [], [] => true
  | (a, x) :: as, (b, y) :: bs => decide (a = b) && D.beq x y && D.beqF as bs
  | _, _ => false
end

mutual
theorem D.beq_refl : ∀ a : D, D.beq a a = true
  | .non => by simp [D.beq]
  | .bl b => by simp [D.beq]
  | .int i => by simp [D.beq]
  | .str s => by simp [D.beq]
  | .tup xs => by simp [D.beq, D.beqL_refl xs]
  | .lst xs => by simp [D.beq, D.beqL_refl xs]
  | .dic xs => by simp [D.beq, D.beqK_refl xs]
  | .ins c xs => by simp [D.beq, D.beqF_refl xs]
  | .cell n => by simp [D.beq]
  | .fn n => by simp [D.beq]
  | .ro xs => by simp [D.beq, D.beqL_refl xs]
theorem D.beqL_refl : ∀ a : List D, D.beqL a a = true
  | [] => by simp [D.beqL]
  | a :: as => by simp [D.beqL, D.beq_refl a, D.beqL_refl as]
theorem D.beqK_refl : ∀ a : List (D × D), D.beqK a a = true
  | [] => by simp [D.beqK]
  | (a, x) :: as => by simp [D.beqK, D.beq_refl a, D.beq_refl x, D.beqK_refl as]
theorem D.beqF_refl : ∀ a : List (Nat × D), D.beqF a a = true
  | [] => by simp [D.beqF]
  | (a, x) :: as => by simp [D.beqF, D.beq_refl x, D.beqF_refl as]
end
mutual
theorem D.eq_of_beq : ∀ {a b : D}, D.beq a b = true → a = b
  | .non, b, h => by cases b <;> simp_all [D.beq]
  | .bl _, b, h => by cases b <;> simp_all [D.beq]
  | .int _, b, h => by cases b <;> simp_all [D.beq]
  | .str _, b, h => by cases b <;> simp_all [D.beq]
  | .tup xs, b, h => by
    cases b <;> simp only [D.beq, Bool.false_eq_true] at h
    rw [D.eqL_of_beq h]
  | .lst xs, b, h => by
    cases b <;> simp only [D.beq, Bool.false_eq_true] at h
    rw [D.eqL_of_beq h]
  | .dic xs, b, h => by
    cases b <;> simp only [D.beq, Bool.false_eq_true] at h
    rw [D.eqK_of_beq h]
  | .ins c xs, b, h => by
    cases b <;> simp only [D.beq, Bool.false_eq_true, Bool.and_eq_true, decide_eq_true_eq] at h
    rw [h.1, D.eqF_of_beq h.2]
  | .cell _, b, h => by cases b <;> simp_all [D.beq]
  | .fn _, b, h => by cases b <;> simp_all [D.beq]
  | .ro xs, b, h => by
    cases b <;> simp only [D.beq, Bool.false_eq_true] at h
    rw [D.eqL_of_beq h]
theorem D.eqL_of_beq : ∀ {a b : List D}, D.beqL a b = true → a = b
  | [], b, h => by cases b <;> simp_all [D.beqL]
  | a :: as, [], h => by simp [D.beqL] at h
  | a :: as, b :: bs, h => by
    simp only [D.beqL, Bool.and_eq_true] at h
    rw [D.eq_of_beq h.1, D.eqL_of_beq h.2]
theorem D.eqK_of_beq : ∀ {a b : List (D × D)}, D.beqK a b = true → a = b
  | [], b, h => by cases b <;> simp_all [D.beqK]
  | (a, x) :: as, [], h => by simp [D.beqK] at h
  | (a, x) :: as, (b, y) :: bs, h => by
    simp only [D.beqK, Bool.and_eq_true] at h
    rw [D.eq_of_beq h.1.1, D.eq_of_beq h.1.2, D.eqK_of_beq h.2]
theorem D.eqF_of_beq : ∀ {a b : List (Nat × D)}, D.beqF a b = true → a = b
  | [], b, h => by cases b <;> simp_all [D.beqF]
  | (a, x) :: as, [], h => by simp [D.beqF] at h
  | (a, x) :: as, (b, y) :: bs, h => by
    simp only [D.beqF, Bool.and_eq_true, decide_eq_true_eq] at h
    rw [h.1.1, D.eq_of_beq h.1.2, D.eqF_of_beq h.2]
end
instance : DecidableEq D := fun a b =>
  if h : D.beq a b = true then .isTrue (D.eq_of_beq h) else .isFalse fun e => h (e ▸ D.beq_refl a)

/-- a mutable object -/
inductive O where
  | lst (xs : List D) | dic (kvs : List (D × D)) | ins (c : Nat) (fs : List (Nat × D)) | fz (d : D)
  deriving Inhabited, DecidableEq
/-- a slot: nothing, a value, an object that this slot alone holds -/
inductive Sl where
  | no | val (d : D) | own (o : O)
  deriving Inhabited, DecidableEq
structure Stt where
  σ : List Sl
  S : List O
inductive R (α : Type) where
  | ok (a : α) (s : Stt) | exc (c : Nat) (d : D) (s : Stt) | bad
  deriving Inhabited
/-- what a def gives -/
inductive RF where
  | ok (d : D) (S : List O) | exc (c : Nat) (d : D) (S : List O) | bad
  deriving Inhabited
/-- a flow -/
inductive Fl where
  | nx | rt (d : D) | bk | ct
  deriving Inhabited

def R.bnd {α β : Type} (r : R α) (f : α → Stt → R β) : R β :=
  match r with
  | .ok a s => f a s
  | .exc c d s => .exc c d s
  | .bad => .bad
@[simp] theorem bnd_ok {α β : Type} (a : α) (s : Stt) (f : α → Stt → R β) : (R.ok a s).bnd f = f a s := id rfl
@[simp] theorem bnd_exc {α β : Type} (c : Nat) (d : D) (s : Stt) (f : α → Stt → R β) : (R.exc c d s).bnd f = .exc c d s := rfl
@[simp] theorem bnd_bad {α β : Type} (f : α → Stt → R β) : (R.bad : R α).bnd f = .bad := rfl
def optR {α : Type} (o : Option α) (s : Stt) : R α :=
  match o with
  | some a => .ok a s
  | none => .bad
@[simp] theorem optR_some {α : Type} (a : α) (s : Stt) : optR (some a) s = .ok a s := rfl
@[simp] theorem optR_none {α : Type} (s : Stt) : optR (none : Option α) s = .bad := rfl

/-- how an expression is asked: for its value, as a test, as a new object that nobody else holds -/
inductive Md where
  | v | t | o
  deriving DecidableEq

def LIM : Nat := 16000000
def BITS : Nat := 130000000

/-- what is seen of a value -/
inductive Vw where
  | lst (xs : List D) | tup (xs : List D) | str (s : List Nat) | dic (kvs : List (D × D)) | ins (c : Nat) (fs : List (Nat × D)) | no
def D.vw : D → Vw
  | .lst xs => .lst xs
  | .ro xs => .lst xs
  | .tup xs => .tup xs
  | .str s => .str s
  | .dic k => .dic k
  | .ins c f => .ins c f
  | _ => .no
def O.vw : O → Vw
  | .lst xs => .lst xs
  | .dic k => .dic k
  | .ins c f => .ins c f
  | .fz d => d.vw
def vwOf (S : List O) : D → Vw
  | .cell n => match S[n]? with
    | some o => o.vw
    | none => .no
  | d => d.vw
def O.frz : O → Option D
  | .lst xs => some (.lst xs)
  | .dic k => some (.dic k)
  | .ins c f => some (.ins c f)
  | .fz _ => none
def D.toO : D → Option O
  | .lst xs => some (.lst xs)
  | .dic k => some (.dic k)
  | .ins c f => some (.ins c f)
  | _ => none

/-- a name read as a value: an own object is from then on anybody's, and stays as it is -/
def rdVar (i : Nat) (st : Stt) : R D :=
  match st.σ[i]? with
  | some (.val d) => .ok d st
  | some (.own o) => match o.frz with
    | some d => .ok d ⟨st.σ.set i (.val d), st.S⟩
    | none => .bad
  | _ => .bad
/-- .. moved out of its slot -/
def mvVar (i : Nat) (st : Stt) : R D :=
  match st.σ[i]? with
  | some (.own o) => match o.frz with
    | some d => .ok d ⟨st.σ.set i .no, st.S⟩
    | none => .bad
  | _ => .bad
/-- .. looked at where it stands -/
def pkVar (i : Nat) (st : Stt) : Option Vw :=
  match st.σ[i]? with
  | some (.val d) => some (vwOf st.S d)
  | some (.own o) => some o.vw
  | _ => none

/-- texts -/
def intL (i : Int) : List Nat := if i < 0 then 45 :: TL.numL i.natAbs else TL.numL i.natAbs
def digs (l : List Nat) : Bool := l.all fun c => decide (48 ≤ c ∧ c ≤ 57)
def valL (l : List Nat) : Nat := l.foldl (fun a c => a * 10 + (c - 48)) 0
/-- int(text) of plain digits -/
def readI (l : List Nat) : Option Int :=
  match l with
  | 45 :: r => if digs r ∧ r ≠ [] ∧ r.length ≤ 600 then some (-(valL r : Int)) else none
  | r => if digs r ∧ r ≠ [] ∧ r.length ≤ 600 then some (valL r : Int) else none

/-- places -/
def cut {α : Type} (xs : List α) (lo hi : Option Int) : List α :=
  (xs.drop (HT.sIx xs.length 0 lo)).take (HT.sIx xs.length xs.length hi - HT.sIx xs.length 0 lo)

def subD (v : Vw) (ix : D) : Option D :=
  match v, ix with
  | .lst xs, .int i => L2.atI xs i
  | .tup xs, .int i => L2.atI xs i
  | .str s, .int i => if s.length ≤ LIM then (L2.atI s i).map fun c => .str [c] else none
  | .dic k, d => k.lookup d
  | _, _ => none
def slcD (v : Vw) (lo hi : Option Int) : Option D :=
  match v with
  | .lst xs => some (.lst (cut xs lo hi))
  | .tup xs => if HT.sIx xs.length 0 lo = 0 ∧ HT.sIx xs.length xs.length hi = xs.length then none else some (.tup (cut xs lo hi))
  | .str s => if s.length ≤ LIM then some (.str (cut s lo hi)) else none
  | _ => none

def bits (i : Int) : Nat := i.natAbs.log2
def mulOk (i j : Int) : Bool := decide (i.natAbs < 2 ^ 64 ∨ j.natAbs < 2 ^ 64 ∨ bits i + bits j < BITS)
def divOk (j : Int) : Bool := decide (0 < j ∧ bits j < 9000)
def powOk (i j : Int) : Bool := decide (0 ≤ j ∧ ((bits i : Int) + 1) * j ≤ 100000000)
def binD (op : Operator) (x y : D) : Option D :=
  match op, x, y with
  | .Add, .int i, .int j => some (.int (i + j))
  | .Add, .str a, .str b => if a.length + b.length ≤ LIM then some (.str (a ++ b)) else none
  | .Sub, .int i, .int j => some (.int (i - j))
  | .Mult, .int i, .int j => if mulOk i j then some (.int (i * j)) else none
  | .FloorDiv, .int i, .int j => if divOk j then some (.int (i / j)) else none
  | .Mod, .int i, .int j => if 0 < j then some (.int (i % j)) else none
  | .Pow, .int i, .int j => if powOk i j then some (.int (i ^ j.toNat)) else none
  | _, _, _ => none
/-- lists made of lists -/
def binL (op : Operator) (x y : D) : Option D :=
  match op, x, y with
  | .Add, .lst a, .lst b => if a.length + b.length ≤ LIM then some (.lst (a ++ b)) else none
  | .Mult, .lst [a], .int n => if 0 ≤ n ∧ n ≤ 100000 then some (.lst (List.replicate n.toNat a)) else none
  | _, _, _ => none
def binA (op : Operator) (x y : D) : Option D :=
  match binL op x y with
  | some g => some g
  | none => binD op x y
/-- the same kind, told apart by what they are -/
def flat : D → Bool
  | .int _ => true
  | .str _ => true
  | .non => true
  | _ => false
def alike : D → D → Bool
  | .int _, .int _ => true
  | .str _, .str _ => true
  | .bl _, .bl _ => true
  | _, _ => false
def cmpD (op : CmpOp) (x y : D) : Option D :=
  match op, x, y with
  | .Lt, .int i, .int j => some (.bl (decide (i < j)))
  | .LtE, .int i, .int j => some (.bl (decide (i ≤ j)))
  | .Gt, .int i, .int j => some (.bl (decide (j < i)))
  | .GtE, .int i, .int j => some (.bl (decide (j ≤ i)))
  | .Eq, a, b => if alike a b then some (.bl (decide (a = b))) else none
  | .NotEq, a, b => if alike a b then some (.bl (!decide (a = b))) else none
  | .Is, a, .non => some (.bl (decide (a = .non)))
  | .IsNot, a, .non => some (.bl (!decide (a = .non)))
  | .In, .str [c], .str s => some (.bl (decide (c ∈ s)))
  | .NotIn, .str [c], .str s => some (.bl (!decide (c ∈ s)))
  | _, _, _ => none
def truD : D → Option Bool
  | .bl b => some b
  | _ => none

/-- built-ins -/
inductive Bi where
  | len | abs | int | str | max2 | min2 | all | gcd
  deriving DecidableEq
/-- built-in types' methods -/
inductive Mi where
  | startswith | partition
  deriving DecidableEq
/-- types asked of -/
inductive Ty where
  | str | int | bool | list | tuple
  deriving DecidableEq

/-- kinds of values -/
inductive Tn where
  | non | bool | int | str | list | tuple
  deriving DecidableEq
def tnV : Vw → Option Tn
  | .lst _ => some .list
  | .tup _ => some .tuple
  | .str _ => some .str
  | _ => none
def tnOf (S : List O) : D → Option Tn
  | .non => some .non
  | .bl _ => some .bool
  | .int _ => some .int
  | d => tnV (vwOf S d)
def subTy : Tn → Ty → Bool
  | .bool, .bool => true
  | .bool, .int => true
  | .int, .int => true
  | .str, .str => true
  | .list, .list => true
  | .tuple, .tuple => true
  | _, _ => false

def boolsOf : List D → Option (List Bool)
  | [] => some []
  | .bl b :: r => (boolsOf r).map (b :: ·)
  | _ => none

def lenV : Vw → Option Nat
  | .lst xs => some xs.length
  | .tup xs => some xs.length
  | .str s => if s.length ≤ LIM then some s.length else none
  | .dic k => some k.length
  | _ => none

def biD (S : List O) (b : Bi) (ds : List D) : Option D :=
  match b, ds with
  | .len, [d] => (lenV (vwOf S d)).map fun (n : Nat) => D.int (n : Int)
  | .abs, [.int i] => some (.int (if i < 0 then -i else i))
  | .int, [.int i] => some (.int i)
  | .int, [.bl b] => some (.int (if b then 1 else 0))
  | .int, [.str s] => (readI s).map .int
  | .str, [.int i] => if bits i < 1900 then some (.str (intL i)) else none
  | .max2, [.int i, .int j] => some (.int (if j > i then j else i))
  | .min2, [.int i, .int j] => some (.int (if j < i then j else i))
  | .all, [.lst xs] => (boolsOf xs).map fun bs => .bl (bs.all id)
  | .gcd, [.int i, .int j] => some (.int (Int.gcd i j))
  | _, _ => none

/-- partition, replace, startswith over signs -/
def startsL (s p : List Nat) : Bool := s.take p.length == p
def partL (p : Nat) : List Nat → List Nat × List Nat × List Nat
  | [] => ([], [], [])
  | c :: r => if c = p then ([], [p], r) else let q := partL p r; (c :: q.1, q.2)
/-- one sign put in the place of another by nothing -/
def miD (m : Mi) (s : List Nat) (ds : List D) : Option D :=
  match m, ds with
  | .startswith, [.str p] => some (.bl (startsL s p))
  | .partition, [.str [c]] => if c < 256 ∧ s.length ≤ LIM then (let q := partL c s; some (.tup [.str q.1, .str q.2.1, .str q.2.2])) else none
  | _, _ => none

/-- text i without the sign that stands at place -k in text j -/
def rplV (i j k : Nat) (st : Stt) : Option D :=
  match st.σ[i]?, st.σ[j]? with
  | some (.val (.str s)), some (.val (.str t)) => if s.length ≤ 100000 ∧ t.length ≤ 100000 then (L2.atI t (-(k : Int))).map fun c => .str (s.filter fun d => !decide (d = c)) else none
  | _, _ => none
/-- targets -/
inductive Tg where
  | nm (i : Nat) | tp (is : List Nat)
def setV (i : Nat) (d : D) (st : Stt) : Stt := ⟨st.σ.set i (.val d), st.S⟩
def setVs : List Nat → List D → Stt → Option Stt
  | [], [], st => some st
  | i :: is, d :: ds, st => setVs is ds (setV i d st)
  | _, _, _ => none
def bindT : Tg → D → Stt → Option Stt
  | .nm i, d, st => some (setV i d st)
  | .tp is, .tup ds, st => setVs is ds st
  | _, _, _ => none

mutual
inductive Ex where
  | var (i : Nat)
  | cst (d : D)
  | gc (g : Nat) (d : D)
  | tup (es : ExL)
  | lst (es : ExL)
  | cel (e : Ex)
  | bin (op : Operator) (a b : Ex)
  | neg (a : Ex)
  | not (a : Ex)
  | cmp (op : CmpOp) (a b : Ex)
  | and (a b : Ex)
  | or (a b : Ex)
  | ife (t a b : Ex)
  | sub (a ix : Ex)
  | subV (i : Nat) (ix : Ex)
  | slc (a : Ex) (lo hi : ExO)
  | pick2 (a va b vb : List Nat) (k : Ex)
  | call (f : Nat) (es : ExL)
  | callK (f : Nat) (es : ExL) (ks : List Nat) (perm : List Nat)
  | blt (b : Bi) (es : ExL)
  | mth (m : Mi) (a : Ex) (es : ExL)
  | rpl (i j : Nat) (k : Nat)
  | isi (a : Ex) (t : Ty)
  | lc (elt : Ex) (tg : Tg) (it : Itr) (cond : ExO) (own : List Nat)
  | fst (es : FsL)
inductive ExL where
  | nil | cons (e : Ex) (es : ExL)
inductive ExO where
  | none | some (e : Ex)
inductive Itr where
  | ex (e : Ex) | r1 (a : Ex) | r2 (a b : Ex)
inductive FsL where
  | nil | lit (s : List Nat) (es : FsL) | val (e : Ex) (es : FsL)
end

/-- calls of the text's own defs, the fuel of whiles -/
structure Cl where
  call : Nat → List D → List O → RF
  fr : Nat → Bool
  fuel : Nat

def toR (σ : List Sl) : RF → R D
  | .ok d S => .ok d ⟨σ, S⟩
  | .exc c d S => .exc c d ⟨σ, S⟩
  | .bad => .bad

/-- the end of an expression that gives no new object -/
def fin (m : Md) (r : R D) : R D :=
  match m with
  | .v => r
  | .t => r.bnd fun d st => optR ((truD d).map .bl) st
  | .o => .bad
/-- .. of one that gives a new object -/
def fino (m : Md) (r : R D) : R D :=
  match m with
  | .v => r
  | .o => r
  | .t => .bad

def intO : D → Option (Option Int)
  | .int i => some (some i)
  | _ => none
def permD (ds : List D) (p : List Nat) : List D := p.filterMap fun i => ds[i]?

/-- the turns of a comprehension -/
def mapL (chk : Stt → Bool) (f : D → Stt → R (Option D)) : List D → Stt → R (List D)
  | [], st => if chk st then .ok [] st else .bad
  | d :: ds, st => if chk st then (match f d st with
    | .ok o st => (match mapL chk f ds st with
      | .ok ys st => .ok (o.toList ++ ys) st
      | _ => .bad)
    | _ => .bad) else .bad
def wipe (σ : List Sl) : List Nat → List Sl
  | [] => σ
  | v :: vs => (wipe σ vs).set v .no
/-- a turn of a comprehension: the target, the test, the element; its own names are forgotten -/
def turn (tg : Tg) (own : List Nat) (test : Stt → R Bool) (elt : Stt → R D) (d : D) (st : Stt) : R (Option D) :=
  match bindT tg d st with
  | none => .bad
  | some st => (test st).bnd fun b st =>
    if b then (elt st).bnd fun y st => .ok (some y) ⟨wipe st.σ own, st.S⟩ else .ok none ⟨wipe st.σ own, st.S⟩
/-- a range's ints -/
def rangeL (lo : Int) (n : Nat) : List D := (List.range n).map fun k => .int (lo + (k : Nat))
def small62 (i : Int) : Bool := decide (-(2 ^ 62) ≤ i ∧ i < 2 ^ 62)
/-- what is walked: the items, and cells that must stay as they are meanwhile -/
def itemsOf (S : List O) (d : D) : Option (List D × List (Nat × O)) :=
  match d with
  | .lst xs => some (xs, [])
  | .ro xs => some (xs, [])
  | .tup xs => some (xs, [])
  | .str s => some (s.map fun c => .str [c], [])
  | .cell n => match S[n]? with
    | some (.lst xs) => some (xs, [(n, .lst xs)])
    | some (.fz (.lst xs)) => some (xs, [])
    | _ => none
  | _ => none
def stays (l : List (Nat × O)) (st : Stt) : Bool := l.all fun p => decide (st.S[p.1]? = some p.2)

mutual
def ev (C : Cl) : Ex → Md → Stt → R D
  | .var i, m, st => (match m with
    | .o => mvVar i st
    | m => fin m (rdVar i st))
  | .cst d, m, st => fin m (.ok d st)
  | .gc _ d, m, st => fin m (.ok d st)
  | .tup es, m, st => fin m ((evL C es st).bnd fun ds st => .ok (.tup ds) st)
  | .lst es, m, st => fino m ((evL C es st).bnd fun ds st => .ok (.lst ds) st)
  | .cel e, m, st => fin m ((ev C e .o st).bnd fun d st => (optR d.toO st).bnd fun o st => .ok (.cell st.S.length) ⟨st.σ, st.S ++ [o]⟩)
  | .bin op a b, m, st => (match m with
    | .o => (ev C a .v st).bnd fun x st => (ev C b .v st).bnd fun y st => optR (binL op x y) st
    | m => fin m ((ev C a .v st).bnd fun x st => (ev C b .v st).bnd fun y st => optR (binA op x y) st))
  | .neg a, m, st => fin m ((ev C a .v st).bnd fun x st => (match x with
    | .int i => .ok (.int (-i)) st
    | _ => .bad))
  | .not a, m, st => (match m with
    | .o => .bad
    | m => (ev C a m st).bnd fun x st => (match x with
      | .bl b => .ok (.bl (!b)) st
      | _ => .bad))
  | .cmp op a b, m, st => fin m ((ev C a .v st).bnd fun x st => (ev C b .v st).bnd fun y st => optR (cmpD op x y) st)
  | .and a b, m, st => (match m with
    | .o => .bad
    | m => (ev C a m st).bnd fun x st => (match x with
      | .bl true => ev C b m st
      | .bl false => .ok (.bl false) st
      | _ => .bad))
  | .or a b, m, st => (match m with
    | .o => .bad
    | m => (ev C a m st).bnd fun x st => (match x with
      | .bl true => .ok (.bl true) st
      | .bl false => ev C b m st
      | _ => .bad))
  | .ife t a b, m, st => (match m with
    | .t => .bad
    | m => (ev C t .t st).bnd fun x st => (match x with
      | .bl true => ev C a m st
      | .bl false => ev C b m st
      | _ => .bad))
  | .sub a ix, m, st => fin m ((ev C a .v st).bnd fun x st => (ev C ix .v st).bnd fun y st => optR (subD (vwOf st.S x) y) st)
  | .subV i ix, m, st => fin m ((optR (pkVar i st) st).bnd fun _ st => (ev C ix .v st).bnd fun y st => (optR (pkVar i st) st).bnd fun v st => optR (subD v y) st)
  | .slc a lo hi, m, st => (match m with
    | .o => (ev C a .v st).bnd fun x st => (evOp C lo st).bnd fun l st => (evOp C hi st).bnd fun h st => (match vwOf st.S x with
      | .lst xs => .ok (.lst (cut xs l h)) st
      | _ => .bad)
    | m => fin m ((ev C a .v st).bnd fun x st => (evOp C lo st).bnd fun l st => (evOp C hi st).bnd fun h st => optR (slcD (vwOf st.S x) l h) st))
  | .pick2 a va b vb k, m, st => fin m ((ev C k .v st).bnd fun x st => (match x with
    | .str s => if s = a then .ok (.str va) st else if s = b then .ok (.str vb) st else .bad
    | _ => .bad))
  | .call f es, m, st => (match m with
    | .o => if C.fr f then (evL C es st).bnd fun ds st => toR st.σ (C.call f ds st.S) else .bad
    | m => fin m ((evL C es st).bnd fun ds st => toR st.σ (C.call f ds st.S)))
  | .callK f es _ p, m, st => (match m with
    | .o => .bad
    | m => fin m ((evL C es st).bnd fun ds st => toR st.σ (C.call f (permD ds p) st.S)))
  | .blt b es, m, st => fin m ((evL C es st).bnd fun ds st => optR (biD st.S b ds) st)
  | .mth k a es, m, st => fin m ((ev C a .v st).bnd fun x st => (match x with
    | .str z => (evL C es st).bnd fun ds st => optR (miD k z ds) st
    | _ => .bad))
  | .rpl i j k, m, st => fin m (optR (rplV i j k st) st)
  | .isi a t, m, st => fin m ((ev C a .v st).bnd fun x st => optR ((tnOf st.S x).map fun n => .bl (subTy n t)) st)
  | .lc elt tg it c own, m, st => fino m ((evI C it st).bnd fun p st =>
      (if p.1.length ≤ LIM then mapL (stays p.2) (turn tg own (fun st => evCo C c st) (fun st => ev C elt .v st)) p.1 ⟨wipe st.σ own, st.S⟩ else .bad).bnd fun ys st => .ok (.lst ys) st)
  | .fst es, m, st => fin m (evF C es [] st)
def evL (C : Cl) : ExL → Stt → R (List D)
  | .nil, st => .ok [] st
  | .cons e es, st => (ev C e .v st).bnd fun d st => (evL C es st).bnd fun ds st => .ok (d :: ds) st
def evOp (C : Cl) : ExO → Stt → R (Option Int)
  | .none, st => .ok none st
  | .some e, st => (ev C e .v st).bnd fun d st => optR (intO d) st
def evCo (C : Cl) : ExO → Stt → R Bool
  | .none, st => .ok true st
  | .some e, st => (ev C e .t st).bnd fun x st => (match x with
    | .bl b => .ok b st
    | _ => .bad)
def evI (C : Cl) : Itr → Stt → R (List D × List (Nat × O))
  | .ex e, st => (ev C e .v st).bnd fun d st => optR (itemsOf st.S d) st
  | .r1 a, st => (ev C a .v st).bnd fun d st => (match d with
    | .int j => if small62 j then .ok (rangeL 0 j.toNat, []) st else .bad
    | _ => .bad)
  | .r2 a b, st => (ev C a .v st).bnd fun d st => (ev C b .v st).bnd fun e st => (match d, e with
    | .int i, .int j => if small62 i && small62 j then .ok (rangeL i (j - i).toNat, []) st else .bad
    | _, _ => .bad)
def evF (C : Cl) : FsL → List Nat → Stt → R D
  | .nil, acc, st => .ok (.str acc) st
  | .lit s es, acc, st => if acc.length + s.length ≤ LIM then evF C es (acc ++ s) st else .bad
  | .val e es, acc, st => (ev C e .v st).bnd fun x st => (match x with
    | .int i => if bits i < 1900 ∧ acc.length ≤ 100000 then evF C es (acc ++ intL i) st else .bad
    | .str s => if acc.length + s.length ≤ LIM then evF C es (acc ++ s) st else .bad
    | _ => .bad)
end

/-! ### statements -/
mutual
inductive Stm where
  | asg (tg : Tg) (e : Ex)
  | asgO (i : Nat) (e : Ex)
  | par (i j : Nat) (a b : Ex)
  | aug (i : Nat) (op : Operator) (e : Ex)
  | seti (o ix e : Ex)
  | expr (e : Ex)
  | ret (e : Ex)
  | retO (e : Ex)
  | retN
  | ife (t : Ex) (a b : StmL)
  | whl (t : Ex) (b : StmL)
  | for_ (tg : Tg) (it : Itr) (b : StmL)
  | brk | cont | pass
  | never
inductive StmL where
  | nil | cons (s : Stm) (r : StmL) | kill (is : List Nat) (r : StmL)
end

/-- the turns of a for -/
def forL (chk : Stt → Bool) (f : D → Stt → R Fl) : List D → Stt → R Fl
  | [], st => if chk st then .ok .nx st else .bad
  | d :: ds, st => if chk st then (match f d st with
    | .ok .nx st => forL chk f ds st
    | .ok .ct st => forL chk f ds st
    | .ok .bk st => .ok .nx st
    | r => r) else .bad
/-- .. of a while -/
def whlL (t : Stt → R D) (f : Stt → R Fl) : Nat → Stt → R Fl
  | 0, _ => .bad
  | n + 1, st => (t st).bnd fun x st => (match x with
    | .bl true => (match f st with
      | .ok .nx st => whlL t f n st
      | .ok .ct st => whlL t f n st
      | .ok .bk st => .ok .nx st
      | r => r)
    | .bl false => .ok .nx st
    | _ => .bad)
def fturn (tg : Tg) (b : Stt → R Fl) (d : D) (st : Stt) : R Fl :=
  match bindT tg d st with
  | none => .bad
  | some st => b st
def cellOf : D → Option Nat
  | .cell n => some n
  | _ => none
def setIx (o : O) (ix d : D) : Option O :=
  match o, ix with
  | .lst xs, .int i => (L2.ixN xs.length i).map fun j => .lst (xs.set j d)
  | _, _ => none

mutual
def evS (C : Cl) : Stm → Stt → R Fl
  | .asg tg e, st => (ev C e .v st).bnd fun d st => (optR (bindT tg d st) st).bnd fun st _ => .ok .nx st
  | .asgO i e, st => (ev C e .o st).bnd fun d st => (optR d.toO st).bnd fun o st => .ok .nx ⟨st.σ.set i (.own o), st.S⟩
  | .par i j a b, st => (ev C a .v st).bnd fun x st => (ev C b .v st).bnd fun y st => .ok .nx (setV j y (setV i x st))
  | .aug i op e, st => (rdVar i st).bnd fun x st => (ev C e .v st).bnd fun y st => (match x, y with
    | .int _, .int _ => (optR (binD op x y) st).bnd fun z st => .ok .nx (setV i z st)
    | _, _ => .bad)
  | .seti o ix e, st => (ev C e .v st).bnd fun d st => (ev C o .v st).bnd fun c st => (ev C ix .v st).bnd fun k st =>
    (optR (cellOf c) st).bnd fun n st => (optR (st.S[n]?) st).bnd fun ob st => (optR (setIx ob k d) st).bnd fun ob' st => .ok .nx ⟨st.σ, st.S.set n ob'⟩
  | .expr e, st => (ev C e .v st).bnd fun _ st => .ok .nx st
  | .ret e, st => (ev C e .v st).bnd fun d st => .ok (.rt d) st
  | .retO e, st => (ev C e .o st).bnd fun d st => .ok (.rt d) st
  | .retN, st => .ok (.rt .non) st
  | .ife t a b, st => (ev C t .t st).bnd fun x st => (match x with
    | .bl true => evSs C a st
    | .bl false => evSs C b st
    | _ => .bad)
  | .whl t b, st => whlL (fun st => ev C t .t st) (fun st => evSs C b st) C.fuel st
  | .for_ tg it b, st => (evI C it st).bnd fun p st => forL (stays p.2) (fturn tg (fun st => evSs C b st)) p.1 st
  | .brk, st => .ok .bk st
  | .cont, st => .ok .ct st
  | .pass, st => .ok .nx st
  | .never, _ => .bad
def evSs (C : Cl) : StmL → Stt → R Fl
  | .nil, st => .ok .nx st
  | .cons s r, st => (match evS C s st with
    | .ok .nx st => evSs C r st
    | x => x)
  | .kill is r, st => evSs C r ⟨wipe st.σ is, st.S⟩
end

/-! ### defs -/
structure FnD where
  np : Nat
  ns : List Str
  body : StmL
  fr : Bool
def finF (fr : Bool) : R Fl → RF
  | .ok .nx st => if fr then .bad else .ok .non st.S
  | .ok (.rt d) st => .ok d st.S
  | .exc c d st => .exc c d st.S
  | _ => .bad
def run (C : Cl) (f : FnD) (ds : List D) (S : List O) : RF :=
  if ds.length = f.np then finF f.fr (evSs C f.body ⟨ds.map .val ++ List.replicate (f.ns.length - f.np) .no, S⟩) else .bad
def callF (Φ : List FnD) (fuel : Nat) : Nat → Nat → List D → List O → RF
  | 0, _, _, _ => .bad
  | k + 1, f, ds, S => match Φ[f]? with
    | none => .bad
    | some fd => run ⟨callF Φ fuel k, fun g => ((Φ[g]?).map FnD.fr).getD false, fuel⟩ fd ds S

example (C : Cl) (st : Stt) : ev C (.bin .Add (.cst (.int 3)) (.cst (.int 4))) .v st = .ok (.int 7) st := rfl
example (C : Cl) (st : Stt) : ev C (.tup (.cons (.cst (.int 3)) .nil)) .v st = .ok (.tup [.int 3]) st := rfl
example (C : Cl) (st : Stt) (a : Int) (h : a < 5) : evS C (.ife (.cmp .Lt (.cst (.int a)) (.cst (.int 5))) (.cons (.ret (.cst (.int 1))) .nil) .nil) st = .ok (.rt (.int 1)) st := by
  simp [evS, ev, evSs, cmpD, fin, truD, h]
end Tp

/-! Tp: what of the heap the evaluator's state stands for. -/
namespace Tp
open PySem PySem.Spec PyProof.Rows L2

/-- the text: what is fixed -/
structure Sig where
  K : PySem.W.Frag
  cl : Nat → Addr
  fa : Nat → Addr
  at_ : Nat → Str

/-- frozen, protected, where the cells stand -/
structure Wd where
  B : Hp
  P : Hp
  φ : Nat → Addr

def strV (s : List Nat) : V := .str ⟨s.toArray⟩

mutual
inductive Rep (G : Sig) (w : Wd) (N : Nat) : D → V → Prop
  | non : Rep G w N .non .non
  | bl (b : Bool) : Rep G w N (.bl b) (.bl b)
  | int (i : Int) : Rep G w N (.int i) (.int i)
  | str (s : List Nat) : Rep G w N (.str s) (strV s)
  | tup {a : Addr} {ds : List D} {vs : List V} (h : SqT G.K w.B a vs) (hl : vs.length ≤ sizeLine) (r : Reps G w N ds vs) : Rep G w N (.tup ds) (.ref a)
  | lst {a : Addr} {ds : List D} {vs : List V} (h : w.B a = some (.lst vs)) (hl : vs.length ≤ sizeLine) (r : Reps G w N ds vs) : Rep G w N (.lst ds) (.ref a)
  | ro {a : Addr} {ds : List D} {vs : List V} (h : SqL G.K w.B a vs) (hl : vs.length ≤ sizeLine) (r : Reps G w N ds vs) : Rep G w N (.ro ds) (.ref a)
  | cell {n : Nat} (h : n < N) : Rep G w N (.cell n) (.ref (w.φ n))
  | fn (n : Nat) : Rep G w N (.fn n) (.ref (G.fa n))
inductive Reps (G : Sig) (w : Wd) (N : Nat) : List D → List V → Prop
  | nil : Reps G w N [] []
  | cons {d : D} {v : V} {ds : List D} {vs : List V} (h : Rep G w N d v) (r : Reps G w N ds vs) : Reps G w N (d :: ds) (v :: vs)
end

/-- the world grows -/
structure Le (w : Wd) (N : Nat) (w' : Wd) (N' : Nat) : Prop where
  B : ∀ a o, w.B a = some o → w'.B a = some o
  P : w'.P = w.P
  φ : ∀ n, n < N → w'.φ n = w.φ n
  N : N ≤ N'
theorem Le.refl (w : Wd) (N : Nat) : Le w N w N := ⟨fun _ _ h => h, rfl, fun _ _ => rfl, Nat.le_refl _⟩
theorem Le.trans {w w1 w2 : Wd} {N N1 N2 : Nat} (a : Le w N w1 N1) (b : Le w1 N1 w2 N2) : Le w N w2 N2 :=
  ⟨fun x o h => b.B x o (a.B x o h), b.P.trans a.P, fun n h => (b.φ n (Nat.lt_of_lt_of_le h a.N)).trans (a.φ n h), Nat.le_trans a.N b.N⟩

theorem rd_mono {B B' : Hp} (h : ∀ a o, B a = some o → B' a = some o) {a : Addr} {u : HO} (r : Rd B a u) : Rd B' a u := by
  rcases r with r | ⟨o, r⟩
  · exact .inl (h _ _ r)
  · exact .inr ⟨o, h _ _ r⟩
theorem sqL_mono {K : PySem.W.Frag} {B B' : Hp} (h : ∀ a o, B a = some o → B' a = some o) {a : Addr} {xs : List V} (r : SqL K B a xs) : SqL K B' a xs := by
  rcases r with r | r
  · exact .inl (rd_mono h r)
  · exact .inr r
theorem sqT_mono {K : PySem.W.Frag} {B B' : Hp} (h : ∀ a o, B a = some o → B' a = some o) {a : Addr} {xs : List V} (r : SqT K B a xs) : SqT K B' a xs := by
  rcases r with r | r
  · exact .inl (rd_mono h r)
  · exact .inr r
mutual
theorem Rep.mono0 {G : Sig} {w w' : Wd} {N N' : Nat} (hB : ∀ a o, w.B a = some o → w'.B a = some o) (hφ : ∀ n, n < N → w'.φ n = w.φ n) (hN : N ≤ N') : ∀ {d : D} {v : V}, Rep G w N d v → Rep G w' N' d v
  | _, _, .non => .non
  | _, _, .bl b => .bl b
  | _, _, .int i => .int i
  | _, _, .str s => .str s
  | _, _, .tup h hl r => .tup (sqT_mono hB h) hl (Reps.mono0 hB hφ hN r)
  | _, _, .lst h hl r => .lst (hB _ _ h) hl (Reps.mono0 hB hφ hN r)
  | _, _, .ro h hl r => .ro (sqL_mono hB h) hl (Reps.mono0 hB hφ hN r)
  | _, _, .cell (n := n) h => by rw [← hφ n h]; exact .cell (Nat.lt_of_lt_of_le h hN)
  | _, _, .fn n => .fn n
theorem Reps.mono0 {G : Sig} {w w' : Wd} {N N' : Nat} (hB : ∀ a o, w.B a = some o → w'.B a = some o) (hφ : ∀ n, n < N → w'.φ n = w.φ n) (hN : N ≤ N') : ∀ {d : List D} {v : List V}, Reps G w N d v → Reps G w' N' d v
  | _, _, .nil => .nil
  | _, _, .cons h r => .cons (Rep.mono0 hB hφ hN h) (Reps.mono0 hB hφ hN r)
end
theorem Rep.mono {G : Sig} {w w' : Wd} {N N' : Nat} (l : Le w N w' N') {d : D} {v : V} (r : Rep G w N d v) : Rep G w' N' d v := r.mono0 l.B l.φ l.N
theorem Reps.mono {G : Sig} {w w' : Wd} {N N' : Nat} (l : Le w N w' N') {d : List D} {v : List V} (r : Reps G w N d v) : Reps G w' N' d v := r.mono0 l.B l.φ l.N
section
variable {G : Sig} {w : Wd} {N : Nat}
theorem Reps.length {ds : List D} {vs : List V} (r : Reps G w N ds vs) : ds.length = vs.length := by
  induction ds generalizing vs with
  | nil => cases r; rfl
  | cons d ds ih => cases r with | cons h r => simp [ih r]
theorem Reps.get : ∀ {ds : List D} {vs : List V} {i : Nat} {d : D}, Reps G w N ds vs → ds[i]? = some d → ∃ v, vs[i]? = some v ∧ Rep G w N d v
  | _, _, _, _, .nil, e => by simp at e
  | _, _, 0, _, .cons h r, e => by simp at e; subst e; exact ⟨_, rfl, h⟩
  | _, _, i + 1, d, .cons h r, e => by
    obtain ⟨v, h1, h2⟩ := Reps.get (i := i) (d := d) r (by simpa using e)
    exact ⟨v, by simpa using h1, h2⟩
theorem Reps.append {ds es : List D} {vs us : List V} (r : Reps G w N ds vs) (q : Reps G w N es us) : Reps G w N (ds ++ es) (vs ++ us) := by
  induction ds generalizing vs with
  | nil => cases r; exact q
  | cons d ds ih => cases r with | cons h r => exact .cons h (ih r)
theorem Reps.set {d : D} {v : V} (h : Rep G w N d v) : ∀ {ds : List D} {vs : List V} (i : Nat), Reps G w N ds vs → Reps G w N (ds.set i d) (vs.set i v)
  | _, _, _, .nil => .nil
  | _, _, 0, .cons _ r => .cons h r
  | _, _, i + 1, .cons q r => .cons q (Reps.set h i r)
theorem Reps.take : ∀ {ds : List D} {vs : List V} (n : Nat), Reps G w N ds vs → Reps G w N (ds.take n) (vs.take n)
  | _, _, 0, _ => by simp; exact .nil
  | _, _, n + 1, .nil => by simp; exact .nil
  | _, _, n + 1, .cons h r => by simp; exact .cons h (Reps.take n r)
theorem Reps.drop : ∀ {ds : List D} {vs : List V} (n : Nat), Reps G w N ds vs → Reps G w N (ds.drop n) (vs.drop n)
  | _, _, 0, r => by simpa using r
  | _, _, n + 1, .nil => by simp; exact .nil
  | _, _, n + 1, .cons h r => by simpa using Reps.drop n r
end

/-- what stands for a mutable object -/
inductive ORep (G : Sig) (w : Wd) (N : Nat) : O → HO → Prop
  | lst {ds : List D} {vs : List V} (hl : vs.length ≤ sizeLine) (r : Reps G w N ds vs) : ORep G w N (.lst ds) (.lst vs)
theorem ORep.mono {G : Sig} {w w' : Wd} {N N' : Nat} (l : Le w N w' N') {o : O} {h : HO} (r : ORep G w N o h) : ORep G w' N' o h := by
  cases r with
  | lst hl r => exact .lst hl (r.mono l)
theorem ORep.mono0 {G : Sig} {w w' : Wd} {N N' : Nat} (hB : ∀ a o, w.B a = some o → w'.B a = some o) (hφ : ∀ n, n < N → w'.φ n = w.φ n) (hN : N ≤ N') {o : O} {h : HO} (r : ORep G w N o h) : ORep G w' N' o h := by
  cases r with
  | lst hl r => exact .lst hl (r.mono0 hB hφ hN)
theorem Rep.sw {G : Sig} {w w' : Wd} {N : Nat} {d : D} {v : V} (r : Rep G w N d v) (hB : w'.B = w.B) (hφ : w'.φ = w.φ) : Rep G w' N d v := r.mono0 (fun a o h => by rw [hB]; exact h) (fun n _ => by rw [hφ]) (Nat.le_refl _)
theorem Reps.sw {G : Sig} {w w' : Wd} {N : Nat} {d : List D} {v : List V} (r : Reps G w N d v) (hB : w'.B = w.B) (hφ : w'.φ = w.φ) : Reps G w' N d v := r.mono0 (fun a o h => by rw [hB]; exact h) (fun n _ => by rw [hφ]) (Nat.le_refl _)
theorem ORep.sw {G : Sig} {w w' : Wd} {N : Nat} {d : O} {v : HO} (r : ORep G w N d v) (hB : w'.B = w.B) (hφ : w'.φ = w.φ) : ORep G w' N d v := r.mono0 (fun a o h => by rw [hB]; exact h) (fun n _ => by rw [hφ]) (Nat.le_refl _)
theorem ORep.mut {G : Sig} {w : Wd} {N : Nat} {o : O} {h : HO} (r : ORep G w N o h) : Mut (some h) := by
  cases r; trivial

/-- slot i, cell n -/
inductive Ky where
  | s (i : Nat) | c (n : Nat)
  deriving DecidableEq
def live (o : O) : Bool := match o with | .fz _ => false | _ => true
def liveO (st : Stt) : Ky → Option O
  | .s i => match st.σ[i]? with
    | some (.own o) => if live o then some o else none
    | _ => none
  | .c n => match st.S[n]? with
    | some o => if live o then some o else none
    | none => none
theorem liveO_s (st : Stt) (i : Nat) : liveO st (.s i) = match st.σ[i]? with
    | some (.own o) => if live o then some o else none
    | _ => none := rfl
theorem liveO_c (st : Stt) (n : Nat) : liveO st (.c n) = match st.S[n]? with
    | some o => if live o then some o else none
    | none => none := rfl
def refOf : Option (Option V) → Addr
  | some (some (.ref a)) => a
  | _ => 0
def adr (φ : Nat → Addr) (σ : L2.St) : Ky → Addr
  | .s i => refOf (σ[i]?)
  | .c n => φ n

structure Sim (G : Sig) (w : Wd) (st : Stt) (σ : L2.St) (H : Hp) : Prop where
  B : ∀ a o, w.B a = some o → H a = some o
  P : ∀ a o, w.P a = some o → H a = some o
  BP : ∀ a o, w.B a = some o → w.P a = none
  len : st.σ.length = σ.length
  val : ∀ (i : Nat) (d : D), st.σ[i]? = some (.val d) → ∃ v, σ[i]? = some (some v) ∧ Rep G w st.S.length d v
  own : ∀ (i : Nat) (o : O), st.σ[i]? = some (.own o) → ∃ a : Addr, σ[i]? = some (some (.ref a)) ∧ live o = true
  live : ∀ (k : Ky) (o : O), liveO st k = some o → ∃ ho : HO, H (adr w.φ σ k) = some ho ∧ ORep G w st.S.length o ho ∧ w.B (adr w.φ σ k) = none ∧ w.P (adr w.φ σ k) = none
  inj : ∀ k k' o o', liveO st k = some o → liveO st k' = some o' → adr w.φ σ k = adr w.φ σ k' → k = k'
  fz : ∀ (n : Nat) (d : D), st.S[n]? = some (.fz d) → Rep G w st.S.length d (.ref (w.φ n))

/-- a new object that nothing holds yet -/
structure Fresh (G : Sig) (w : Wd) (st : Stt) (σ : L2.St) (H : Hp) (p : Addr) (o : O) : Prop where
  at_ : ∃ ho, H p = some ho ∧ ORep G w st.S.length o ho
  B : w.B p = none
  P : w.P p = none
  ne : ∀ k o', liveO st k = some o' → adr w.φ σ k ≠ p
  lv : live o = true

section
variable {G : Sig} {w : Wd} {st : Stt} {σ : L2.St} {H : Hp} {p : Addr} {o : O} {ho : HO} {d : D} {v : V}
def Wd.put (w : Wd) (p : Addr) (ho : HO) : Wd := ⟨upd w.B p ho, w.P, w.φ⟩
theorem le_put (hp : w.B p = none) : Le w N (w.put p ho) N :=
  ⟨fun a o h => by
    show upd w.B p ho a = some o
    rw [upd_ne (ne_of_none h hp)]; exact h, rfl, fun _ _ => rfl, Nat.le_refl _⟩
theorem Sim.bnone (s : Sim G w st σ H) (hp : H p = none) : w.B p = none := by
  cases e : w.B p with
  | none => rfl
  | some o => rw [s.B p o e] at hp; cases hp
theorem Sim.pnone (s : Sim G w st σ H) (hp : H p = none) : w.P p = none := by
  cases e : w.P p with
  | none => rfl
  | some o => rw [s.P p o e] at hp; cases hp
theorem Sim.lne (s : Sim G w st σ H) (hp : H p = none) {k : Ky} {o' : O} (h : liveO st k = some o') : adr w.φ σ k ≠ p := fun e => by
  obtain ⟨ho, h1, _⟩ := s.live k o' h
  rw [e, hp] at h1; cases h1
/-- the world alone grows, at what is not live -/
theorem Sim.world {w' : Wd} (s : Sim G w st σ H) (l : Le w st.S.length w' st.S.length) (hφ : w'.φ = w.φ) (hB : ∀ a o, w'.B a = some o → H a = some o) (hBP : ∀ a o, w'.B a = some o → w.P a = none)
    (hl : ∀ k o, liveO st k = some o → w'.B (adr w.φ σ k) = none) : Sim G w' st σ H where
  B := hB
  P := fun a o h => s.P a o (by rw [← l.P]; exact h)
  BP := fun a o h => by rw [l.P]; exact hBP a o h
  len := s.len
  val := fun i d h => let ⟨v, a, b⟩ := s.val i d h; ⟨v, a, b.mono l⟩
  own := s.own
  live := fun k o h => by
    obtain ⟨ho, a, b, c, e⟩ := s.live k o h
    rw [hφ, l.P]
    exact ⟨ho, a, b.mono l, hl k o h, e⟩
  inj := fun k k' o o' h h' e => s.inj k k' o o' h h' (by rw [hφ] at e; exact e)
  fz := fun n d h => by rw [hφ]; exact (s.fz n d h).mono l
/-- a new object is laid; nobody knows it yet -/
theorem Sim.grow (s : Sim G w st σ H) (hp : H p = none) : Sim G w st σ (upd H p ho) where
  B := fun a o h => by rw [upd_ne (ne_of_none (s.B a o h) hp)]; exact s.B a o h
  P := fun a o h => by rw [upd_ne (ne_of_none (s.P a o h) hp)]; exact s.P a o h
  BP := s.BP
  len := s.len
  val := s.val
  own := s.own
  live := fun k o h => by
    obtain ⟨u, a, b⟩ := s.live k o h
    exact ⟨u, by rw [upd_ne (s.lne hp h)]; exact a, b⟩
  inj := s.inj
  fz := s.fz
theorem Sim.fresh (s : Sim G w st σ H) (hp : H p = none) (r : ORep G w st.S.length o ho) (lv : Tp.live o = true) : Fresh G w st σ (upd H p ho) p o :=
  ⟨⟨ho, upd_same, r⟩, s.bnone hp, s.pnone hp, fun k o' h => s.lne hp h, lv⟩
/-- a new object, frozen at once -/
theorem Sim.newB (s : Sim G w st σ H) (hp : H p = none) : Sim G (w.put p ho) st σ (upd H p ho) := by
  refine (s.grow (ho := ho) hp).world (le_put (s.bnone hp)) rfl (fun a o h => ?_) (fun a o h => ?_) fun k o h => ?_
  · by_cases e : a = p
    · subst e; rw [show (w.put a ho).B a = some ho from upd_same] at h; cases h; exact upd_same
    · rw [show (w.put p ho).B a = w.B a from upd_ne e] at h
      rw [upd_ne e]; exact s.B a o h
  · by_cases e : a = p
    · subst e; exact s.pnone hp
    · rw [show (w.put p ho).B a = w.B a from upd_ne e] at h
      exact s.BP a o h
  · show upd w.B p ho (adr w.φ σ k) = none
    rw [upd_ne (s.lne hp h)]
    obtain ⟨_, _, _, c, _⟩ := s.live k o h
    exact c
/-- .. or later -/
theorem Sim.freeze (s : Sim G w st σ H) (f : Fresh G w st σ H p o) (hh : H p = some ho) : Sim G (w.put p ho) st σ H := by
  refine s.world (le_put f.B) rfl (fun a o h => ?_) (fun a o h => ?_) fun k o' h => ?_
  · by_cases e : a = p
    · subst e; rw [show (w.put a ho).B a = some ho from upd_same] at h; cases h; exact hh
    · rw [show (w.put p ho).B a = w.B a from upd_ne e] at h
      exact s.B a o h
  · by_cases e : a = p
    · subst e; exact f.P
    · rw [show (w.put p ho).B a = w.B a from upd_ne e] at h
      exact s.BP a o h
  · show upd w.B p ho (adr w.φ σ k) = none
    rw [upd_ne (f.ne k o' h)]
    obtain ⟨_, _, _, c, _⟩ := s.live k o' h
    exact c
theorem put_at : (w.put p ho).B p = some ho := upd_same

/-! slots -/
theorem getElem?_set_ne' {α : Type} {l : List α} {i j : Nat} {a : α} (h : j ≠ i) : (l.set i a)[j]? = l[j]? := List.getElem?_set_ne (Ne.symm h)
/-- slot i becomes x, standing for y -/
theorem Sim.setSl {x : Sl} {y : Option V} (s : Sim G w st σ H) (i : Nat)
    (hv : ∀ d, x = .val d → ∃ v, y = some v ∧ Rep G w st.S.length d v)
    (ho : ∀ o, x = .own o → ∃ a, y = some (.ref a) ∧ Fresh G w st σ H a o) : Sim G w ⟨st.σ.set i x, st.S⟩ (σ.set i y) H := by
  have hi : ∀ {z : Sl}, (st.σ.set i x)[i]? = some z → z = x ∧ (σ.set i y)[i]? = some y := fun {z} h => by
    by_cases hl : i < st.σ.length
    · rw [List.getElem?_set_self hl] at h
      exact ⟨(Option.some.inj h).symm, List.getElem?_set_self (by rw [← s.len]; exact hl)⟩
    · rw [List.getElem?_eq_none (by simpa using hl)] at h; cases h
  -- a live key of the new state: an old one at the same address, or the slot itself
  have key : ∀ k o, liveO ⟨st.σ.set i x, st.S⟩ k = some o →
      (liveO st k = some o ∧ adr w.φ (σ.set i y) k = adr w.φ σ k ∧ k ≠ .s i) ∨ (k = .s i ∧ x = .own o ∧ Fresh G w st σ H (adr w.φ (σ.set i y) k) o) := fun k o h => by
    cases k with
    | c n => exact .inl ⟨h, rfl, fun e => nomatch e⟩
    | s j =>
      by_cases hj : j = i
      · subst hj
        right
        simp only [liveO_s] at h
        cases e : (st.σ.set j x)[j]? with
        | none => rw [e] at h; cases h
        | some z =>
          obtain ⟨rfl, e2⟩ := hi e
          rw [e] at h
          cases z with
          | no => cases h
          | val d => cases h
          | own o' =>
            obtain ⟨a, ey, f⟩ := ho o' rfl
            have l' := f.lv
            simp only [l', if_true] at h
            obtain rfl : o' = o := by simpa using h
            refine ⟨rfl, rfl, ?_⟩
            have : adr w.φ (σ.set j y) (.s j) = a := by
              show refOf ((σ.set j y)[j]?) = a
              rw [e2, ey]
              rfl
            rw [this]
            exact f
      · left
        refine ⟨?_, ?_, fun e => hj (by cases e; rfl)⟩
        · simp only [liveO_s] at h ⊢
          rw [getElem?_set_ne' hj] at h
          exact h
        · show refOf ((σ.set i y)[j]?) = refOf (σ[j]?)
          rw [getElem?_set_ne' hj]
  refine ⟨s.B, s.P, s.BP, by simp [s.len], fun j d h => ?_, fun j o h => ?_, fun k o h => ?_, fun k k' o o' h h' e => ?_, s.fz⟩
  · by_cases hj : j = i
    · subst hj
      obtain ⟨e, e2⟩ := hi h
      obtain ⟨v, ey, r⟩ := hv d e.symm
      exact ⟨v, by rw [e2, ey], r⟩
    · rw [getElem?_set_ne' hj] at h ⊢
      exact s.val j d h
  · by_cases hj : j = i
    · subst hj
      obtain ⟨e, e2⟩ := hi h
      obtain ⟨a, ey, r⟩ := ho o e.symm
      exact ⟨a, by rw [e2, ey], r.lv⟩
    · rw [getElem?_set_ne' hj] at h ⊢
      exact s.own j o h
  · rcases key k o h with ⟨a, b, _⟩ | ⟨e, _, f⟩
    · rw [b]; exact s.live k o a
    · obtain ⟨u, h1, h2⟩ := f.at_
      exact ⟨u, h1, h2, f.B, f.P⟩
  · rcases key k o h with ⟨a, b, n⟩ | ⟨e1, _, f⟩ <;> rcases key k' o' h' with ⟨a', b', n'⟩ | ⟨e2, _, f'⟩
    · rw [b, b'] at e; exact s.inj k k' o o' a a' e
    · rw [b] at e
      exact absurd e (f'.ne k o a)
    · rw [b'] at e
      exact absurd e.symm (f.ne k' o' a')
    · rw [e1, e2]
theorem Sim.setVal (s : Sim G w st σ H) (i : Nat) (r : Rep G w st.S.length d v) : Sim G w (setV i d st) (σ.set i (some v)) H :=
  s.setSl i (fun d' e => by cases e; exact ⟨v, rfl, r⟩) fun _ e => nomatch e
theorem Sim.setNo (s : Sim G w st σ H) (i : Nat) : Sim G w ⟨st.σ.set i .no, st.S⟩ (σ.set i none) H :=
  s.setSl i (fun _ e => nomatch e) fun _ e => nomatch e
theorem Sim.setOwn (s : Sim G w st σ H) (i : Nat) (f : Fresh G w st σ H p o) : Sim G w ⟨st.σ.set i (.own o), st.S⟩ (σ.set i (some (.ref p))) H :=
  s.setSl i (fun _ e => nomatch e) fun o' e => by cases e; exact ⟨p, rfl, f⟩
/-- the slot is forgotten, the frame's name keeps what it has -/
theorem Sim.forget (s : Sim G w st σ H) (i : Nat) : Sim G w ⟨st.σ.set i .no, st.S⟩ σ H := by
  have sub : ∀ k o, liveO ⟨st.σ.set i .no, st.S⟩ k = some o → liveO st k = some o := fun k o h => by
    cases k with
    | c n => exact h
    | s j =>
      by_cases hj : j = i
      · subst hj
        simp only [liveO_s] at h
        by_cases hl : j < st.σ.length
        · rw [List.getElem?_set_self hl] at h; cases h
        · rw [List.getElem?_eq_none (by simpa using hl)] at h; cases h
      · simp only [liveO_s] at h ⊢
        rw [getElem?_set_ne' hj] at h
        exact h
  have sl : ∀ (j : Nat) (x : Sl), (st.σ.set i Sl.no)[j]? = some x → x ≠ Sl.no → st.σ[j]? = some x := fun j x h n => by
    by_cases hj : j = i
    · subst hj
      by_cases hl : j < st.σ.length
      · rw [List.getElem?_set_self hl] at h; cases h; exact absurd rfl n
      · rw [List.getElem?_eq_none (by simpa using hl)] at h; cases h
    · rw [getElem?_set_ne' hj] at h; exact h
  exact ⟨s.B, s.P, s.BP, by simp [s.len], fun j d h => s.val j d (sl j _ h fun e => nomatch e), fun j o h => s.own j o (sl j _ h fun e => nomatch e), fun k o h => s.live k o (sub k o h),
    fun k k' o o' h h' e => s.inj k k' o o' (sub k o h) (sub k' o' h') e, s.fz⟩
theorem Sim.forgets (s : Sim G w st σ H) : ∀ is : List Nat, Sim G w ⟨wipe st.σ is, st.S⟩ σ H
  | [] => s
  | i :: is => (Sim.forgets s is).forget i
theorem Sim.wiped (s : Sim G w st σ H) : ∀ is : List Nat, Sim G w ⟨wipe st.σ is, st.S⟩ (L2.wipe σ is) H
  | [] => s
  | i :: is => (Sim.wiped s is).setNo i

/-- what is known of an own slot -/
theorem Sim.ownAt (s : Sim G w st σ H) {i : Nat} {o : O} (h : st.σ[i]? = some (.own o)) :
    ∃ a ho, σ[i]? = some (some (.ref a)) ∧ liveO st (.s i) = some o ∧ H a = some ho ∧ ORep G w st.S.length o ho ∧ w.B a = none ∧ w.P a = none ∧ adr w.φ σ (.s i) = a := by
  obtain ⟨a, e, l⟩ := s.own i o h
  have hl : liveO st (.s i) = some o := by rw [liveO_s, h]; simp [l]
  have ha : adr w.φ σ (.s i) = a := by
    show refOf (σ[i]?) = a
    rw [e]; rfl
  obtain ⟨ho, h1, h2, h3, h4⟩ := s.live _ o hl
  rw [ha] at h1 h3 h4
  exact ⟨a, ho, e, hl, h1, h2, h3, h4, ha⟩
theorem set_no_sub {st : Stt} {i : Nat} {k : Ky} {o : O} (h : liveO ⟨st.σ.set i .no, st.S⟩ k = some o) : liveO st k = some o ∧ k ≠ .s i := by
  cases k with
  | c n => exact ⟨h, fun e => nomatch e⟩
  | s j =>
    by_cases hj : j = i
    · subst hj
      simp only [liveO_s] at h
      by_cases hl : j < st.σ.length
      · rw [List.getElem?_set_self hl] at h; cases h
      · rw [List.getElem?_eq_none (by simpa using hl)] at h; cases h
    · simp only [liveO_s] at h ⊢
      rw [getElem?_set_ne' hj] at h
      exact ⟨h, fun e => hj (by cases e; rfl)⟩
/-- an own object moved out of its slot -/
theorem Sim.move (s : Sim G w st σ H) {i : Nat} {o : O} (h : st.σ[i]? = some (.own o)) :
    ∃ a, σ[i]? = some (some (.ref a)) ∧ Sim G w ⟨st.σ.set i .no, st.S⟩ σ H ∧ Fresh G w ⟨st.σ.set i .no, st.S⟩ σ H a o := by
  obtain ⟨a, ho, e, hl, h1, h2, h3, h4, ha⟩ := s.ownAt h
  refine ⟨a, e, s.forget i, ⟨ho, h1, h2⟩, h3, h4, fun k o' hk z => ?_, (s.own i o h).choose_spec.2⟩
  obtain ⟨hk1, hk2⟩ := set_no_sub hk
  exact hk2 (s.inj k (.s i) o' o hk1 hl (by rw [ha]; exact z))
/-- a frozen object's data -/
theorem ORep.rep {d : D} {N : Nat} (r : ORep G w N o ho) (hf : o.frz = some d) (hb : w.B p = none) : Rep G (w.put p ho) N d (.ref p) := by
  cases r with
  | lst hl r =>
    simp only [O.frz, Option.some.injEq] at hf
    subst hf
    exact .lst put_at hl (r.mono (le_put hb))
theorem ORep.live {N : Nat} (r : ORep G w N o ho) : Tp.live o = true := by cases r; rfl
theorem Fresh.frz (f : Fresh G w st σ H p o) (s : Sim G w st σ H) {d : D} (hf : o.frz = some d) : ∃ w', Le w st.S.length w' st.S.length ∧ Sim G w' st σ H ∧ Rep G w' st.S.length d (.ref p) := by
  obtain ⟨ho, h1, h2⟩ := f.at_
  exact ⟨w.put p ho, le_put f.B, s.freeze f h1, h2.rep hf f.B⟩
/-- a name read -/
theorem Sim.rd (s : Sim G w st σ H) {i : Nat} {d : D} {st' : Stt} (h : rdVar i st = .ok d st') :
    ∃ v w', σ[i]? = some (some v) ∧ Le w st.S.length w' st'.S.length ∧ Sim G w' st' σ H ∧ Rep G w' st'.S.length d v := by
  unfold rdVar at h
  split at h
  · rename_i d' e
    cases h
    obtain ⟨v, e1, r⟩ := s.val i d e
    exact ⟨v, w, e1, Le.refl _ _, s, r⟩
  · rename_i o e
    split at h
    · rename_i d' hf
      cases h
      obtain ⟨a, e1, s1, f⟩ := s.move e
      obtain ⟨w', l, s2, r⟩ := f.frz s1 hf
      refine ⟨.ref a, w', e1, l, ?_, r⟩
      have s3 := s2.setVal i r
      have e2 : σ.set i (some (V.ref a)) = σ := by
        apply List.ext_getElem?
        intro j
        by_cases hj : j = i
        · subst hj
          rw [List.getElem?_set_self (List.getElem?_eq_some_iff.mp e1).1, e1]
        · rw [getElem?_set_ne' hj]
      rw [e2] at s3
      simpa [setV, List.set_set] using s3
    · cases h
  · cases h
theorem Sim.mv (s : Sim G w st σ H) {i : Nat} {d : D} {st' : Stt} (h : mvVar i st = .ok d st') :
    ∃ a o, σ[i]? = some (some (.ref a)) ∧ d.toO = some o ∧ o.frz = some d ∧ st'.S = st.S ∧ Sim G w st' σ H ∧ Fresh G w st' σ H a o := by
  unfold mvVar at h
  split at h
  · rename_i o e
    split at h
    · rename_i d' hf
      cases h
      obtain ⟨a, e1, s1, f⟩ := s.move e
      refine ⟨a, o, e1, ?_, hf, rfl, s1, f⟩
      cases o <;> simp only [O.frz, Option.some.injEq, reduceCtorEq] at hf <;> subst hf <;> rfl
    · cases h
  · cases h
/-- a new cell -/
theorem Sim.newCell (s : Sim G w st σ H) (f : Fresh G w st σ H p o) :
    Le w st.S.length ⟨w.B, w.P, fun m => if m = st.S.length then p else w.φ m⟩ (st.S ++ [o]).length ∧ Sim G ⟨w.B, w.P, fun m => if m = st.S.length then p else w.φ m⟩ ⟨st.σ, st.S ++ [o]⟩ σ H := by
  have l : Le w st.S.length ⟨w.B, w.P, fun m => if m = st.S.length then p else w.φ m⟩ (st.S ++ [o]).length :=
    ⟨fun _ _ h => h, rfl, fun n hn => by show (if n = st.S.length then p else w.φ n) = w.φ n; rw [if_neg (by omega)], by simp⟩
  refine ⟨l, ?_⟩
  have key : ∀ k o', liveO ⟨st.σ, st.S ++ [o]⟩ k = some o' → (liveO st k = some o' ∧ adr (fun m => if m = st.S.length then p else w.φ m) σ k = adr w.φ σ k) ∨ (k = .c st.S.length ∧ o' = o) := fun k o' h => by
    cases k with
    | s j => exact .inl ⟨h, rfl⟩
    | c n =>
      simp only [liveO_c] at h
      by_cases hn : n < st.S.length
      · left
        rw [List.getElem?_append_left hn] at h
        refine ⟨h, ?_⟩
        show (if n = st.S.length then p else w.φ n) = w.φ n
        rw [if_neg (by omega)]
      · by_cases hn2 : n = st.S.length
        · subst hn2
          right
          rw [List.getElem?_append_right (Nat.le_refl _)] at h
          simp only [Nat.sub_self, List.getElem?_cons_zero, f.lv, if_true, Option.some.injEq] at h
          exact ⟨rfl, h.symm⟩
        · rw [List.getElem?_eq_none (by simp; omega)] at h
          cases h
  have new : adr (fun m => if m = st.S.length then p else w.φ m) σ (.c st.S.length) = p := if_pos rfl
  refine ⟨s.B, s.P, s.BP, s.len, fun i d h => let ⟨v, a, b⟩ := s.val i d h; ⟨v, a, b.mono l⟩, s.own, fun k o' h => ?_, fun k k' o1 o2 h h' e => ?_, fun n d h => ?_⟩
  · rcases key k o' h with ⟨h1, e⟩ | ⟨rfl, rfl⟩
    · obtain ⟨ho, a, b, c, d⟩ := s.live k o' h1
      show ∃ ho, H (adr (fun m => if m = st.S.length then p else w.φ m) σ k) = some ho ∧ _
      rw [e]
      exact ⟨ho, a, b.mono l, c, d⟩
    · obtain ⟨ho, a, b⟩ := f.at_
      show ∃ ho, H (adr (fun m => if m = st.S.length then p else w.φ m) σ (.c st.S.length)) = some ho ∧ _
      rw [new]
      exact ⟨ho, a, b.mono l, f.B, f.P⟩
  · have e' : adr (fun m => if m = st.S.length then p else w.φ m) σ k = adr (fun m => if m = st.S.length then p else w.φ m) σ k' := e
    rcases key k o1 h with ⟨h1, e1⟩ | ⟨rfl, rfl⟩ <;> rcases key k' o2 h' with ⟨h2, e2⟩ | ⟨rfl, rfl⟩
    · rw [e1, e2] at e'
      exact s.inj k k' o1 o2 h1 h2 e'
    · rw [e1, new] at e'
      exact absurd e' (f.ne k o1 h1)
    · rw [e2, new] at e'
      exact absurd e'.symm (f.ne k' o2 h2)
    · rfl
  · by_cases hn : n < st.S.length
    · rw [List.getElem?_append_left hn] at h
      show Rep G _ _ d (.ref (if n = st.S.length then p else w.φ n))
      rw [if_neg (by omega)]
      exact (s.fz n d h).mono l
    · by_cases hn2 : n = st.S.length
      · subst hn2
        rw [List.getElem?_append_right (Nat.le_refl _)] at h
        simp only [Nat.sub_self, List.getElem?_cons_zero, Option.some.injEq] at h
        have := f.lv
        rw [h] at this; cases this
      · rw [List.getElem?_eq_none (by simp; omega)] at h
        cases h
/-- a cell is changed -/
theorem Sim.setCell (s : Sim G w st σ H) {n : Nat} {o o' : O} {ho' : HO} (h : st.S[n]? = some o) (lv : Tp.live o = true) (r : ORep G w st.S.length o' ho') :
    Sim G w ⟨st.σ, st.S.set n o'⟩ σ (upd H (w.φ n) ho') := by
  have hl : liveO st (.c n) = some o := by rw [liveO_c, h]; simp [lv]
  obtain ⟨ho, h1, h2, h3, h4⟩ := s.live _ o hl
  have h3 : w.B (w.φ n) = none := h3
  have h4 : w.P (w.φ n) = none := h4
  have hn : n < st.S.length := (List.getElem?_eq_some_iff.mp h).1
  have key : ∀ k o1, liveO ⟨st.σ, st.S.set n o'⟩ k = some o1 → (k = .c n ∧ o1 = o') ∨ (k ≠ .c n ∧ liveO st k = some o1) := fun k o1 q => by
    cases k with
    | s j => exact .inr ⟨fun e => (nomatch e), q⟩
    | c m =>
      by_cases hm : m = n
      · subst hm
        left
        simp only [liveO_c] at q
        rw [List.getElem?_set_self hn] at q
        simp only [r.live, if_true, Option.some.injEq] at q
        exact ⟨rfl, q.symm⟩
      · right
        simp only [liveO_c] at q ⊢
        rw [getElem?_set_ne' hm] at q
        exact ⟨fun e => hm (by cases e; rfl), q⟩
  refine ⟨fun a u e => ?_, fun a u e => ?_, s.BP, s.len, fun i d q => ?_, s.own, fun k o1 q => ?_, fun k k' o1 o2 q q' e => ?_, fun m d q => ?_⟩
  · rw [upd_ne (ne_of_none e h3)]; exact s.B a u e
  · rw [upd_ne (ne_of_none e h4)]; exact s.P a u e
  · obtain ⟨v, a, b⟩ := s.val i d q
    exact ⟨v, a, by simpa using b⟩
  · rcases key k o1 q with ⟨rfl, rfl⟩ | ⟨hk, q1⟩
    · exact ⟨ho', upd_same, by simpa using r, h3, h4⟩
    · obtain ⟨u, a, b, c, d⟩ := s.live k o1 q1
      have ne : adr w.φ σ k ≠ w.φ n := fun z => hk (s.inj k (.c n) o1 o q1 hl z)
      exact ⟨u, by rw [upd_ne ne]; exact a, by simpa using b, c, d⟩
  · have al : ∀ k o1, liveO ⟨st.σ, st.S.set n o'⟩ k = some o1 → ∃ o2, liveO st k = some o2 := fun k o1 q => by
      rcases key k o1 q with ⟨rfl, rfl⟩ | ⟨_, q1⟩
      · exact ⟨_, hl⟩
      · exact ⟨_, q1⟩
    obtain ⟨u1, a1⟩ := al k o1 q
    obtain ⟨u2, a2⟩ := al k' o2 q'
    exact s.inj k k' u1 u2 a1 a2 e
  · by_cases hm : m = n
    · subst hm
      simp only at q
      rw [List.getElem?_set_self hn] at q
      simp only [Option.some.injEq] at q
      have := r.live
      rw [q] at this; cases this
    · simp only at q
      rw [getElem?_set_ne' hm] at q
      simpa using s.fz m d q
/-- a cell's content read -/
theorem Sim.cellAt (s : Sim G w st σ H) {n : Nat} {o : O} (h : st.S[n]? = some o) (lv : Tp.live o = true) : ∃ ho, H (w.φ n) = some ho ∧ ORep G w st.S.length o ho := by
  have hl : liveO st (.c n) = some o := by rw [liveO_c, h]; simp [lv]
  obtain ⟨ho, h1, h2, _⟩ := s.live _ o hl
  exact ⟨ho, h1, h2⟩
end
end Tp

/-! Tp: the judgements of the evaluator's words, construct by construct. -/
namespace Tp
open PySem PySem.Spec PyProof.Rows L2

/-- what follows from a state's answer -/
def Aft {α : Type} (G : Sig) (W : WX) (σ : L2.St) (w : Wd) (N : Nat) (r : R α) (K : α → Wd → Stt → Hp → Prop) : Prop :=
  match r with
  | .ok a st' => ∀ (w' : Wd) (H' : Hp), Le w N w' st'.S.length → Sim G w' st' σ H' → K a w' st' H'
  | .exc c d st' => ∀ (w' : Wd) (H' : Hp) (dx : Addr) (v : V), Le w N w' st'.S.length → Sim G w' st' σ H' → H' dx = some (.xd [("value", v)]) → Rep G w' st'.S.length d v → W (.ref (G.cl c)) (some dx) σ H'
  | .bad => False
section
variable {G : Sig} {W : WX} {σ : L2.St} {w : Wd} {N : Nat} {α β : Type}
theorem Aft.bnd {r : R α} {f : α → Stt → R β} {K : β → Wd → Stt → Hp → Prop} (h : Aft G W σ w N (r.bnd f) K) :
    Aft G W σ w N r (fun a w1 st1 _ => Le w N w1 st1.S.length ∧ Aft G W σ w1 st1.S.length (f a st1) fun b w2 st2 H2 => K b w2 st2 H2) := by
  cases r with
  | ok a st1 =>
    intro w1 H1 l1 s1
    refine ⟨l1, ?_⟩
    have h : Aft G W σ w N (f a st1) K := h
    cases e : f a st1 with
    | ok b st2 => rw [e] at h; exact fun w2 H2 l2 s2 => h w2 H2 (l1.trans l2) s2
    | exc c d st2 => rw [e] at h; exact fun w2 H2 dx v l2 s2 hx r => h w2 H2 dx v (l1.trans l2) s2 hx r
    | bad => rw [e] at h; exact h
  | exc c d st1 => exact h
  | bad => exact h
theorem Aft.imp {r : R α} {K K' : α → Wd → Stt → Hp → Prop} (h : Aft G W σ w N r K) (f : ∀ a w1 st1 H1, Le w N w1 st1.S.length → Sim G w1 st1 σ H1 → K a w1 st1 H1 → K' a w1 st1 H1) : Aft G W σ w N r K' := by
  cases r with
  | ok a st1 => exact fun w1 H1 l s => f a w1 st1 H1 l s (h w1 H1 l s)
  | exc c d st1 => exact h
  | bad => exact h
theorem Aft.eq {r : R α} {K : α → Wd → Stt → Hp → Prop} (h : Aft G W σ w N r K) : Aft G W σ w N r fun a w1 st1 H1 => r = .ok a st1 ∧ K a w1 st1 H1 := by
  cases r with
  | ok a st1 => exact fun w1 H1 l s => ⟨rfl, h w1 H1 l s⟩
  | exc c d st1 => exact h
  | bad => exact h
theorem Aft.mono {w1 : Wd} {N1 : Nat} {r : R α} {K : α → Wd → Stt → Hp → Prop} (h : Aft G W σ w N r K) (l : Le w N w1 N1) : Aft G W σ w1 N1 r K := by
  cases r with
  | ok a st1 => exact fun w2 H2 l2 s => h w2 H2 (l.trans l2) s
  | exc c d st1 => exact fun w2 H2 dx v l2 s hx r => h w2 H2 dx v (l.trans l2) s hx r
  | bad => exact h
theorem Aft.ok {a : α} {st : Stt} {H : Hp} {K : α → Wd → Stt → Hp → Prop} (h : Aft G W σ w st.S.length (.ok a st) K) (s : Sim G w st σ H) : K a w st H := h w H (Le.refl _ _) s
theorem Aft.opt' {o : Option α} {st : Stt} {K : α → Wd → Stt → Hp → Prop} (h : Aft G W σ w N (optR o st) K) : ∃ a, o = some a ∧ Aft G W σ w N (.ok a st) K := by
  cases o with
  | none => exact h.elim
  | some a => exact ⟨a, rfl, h⟩
theorem Aft.opt {o : Option α} {st : Stt} {H : Hp} {K : α → Wd → Stt → Hp → Prop} (h : Aft G W σ w st.S.length (optR o st) K) (s : Sim G w st σ H) : ∃ a, o = some a ∧ K a w st H := by
  cases o with
  | none => exact h.elim
  | some a => exact ⟨a, rfl, Aft.ok h s⟩
end

/-- readings of the evaluator -/
def tE (G : Sig) (W : WX) (r : Stt → R D) : TE := fun σ H Q => ∃ w st, Sim G w st σ H ∧ Aft G W σ w st.S.length (r st) fun d w' st' H' => ∀ v, Rep G w' st'.S.length d v → Q v H'
def tO (G : Sig) (W : WX) (r : Stt → R D) : TE := fun σ H Q => ∃ w st, Sim G w st σ H ∧ Aft G W σ w st.S.length (r st) fun d w' st' H' => ∀ p o, d.toO = some o → o.frz = some d → Fresh G w' st' σ H' p o → Q (.ref p) H'
def tT (G : Sig) (W : WX) (r : Stt → R D) : TT := fun σ H Q => ∃ w st, Sim G w st σ H ∧ Aft G W σ w st.S.length (r st) fun d w' st' H' => ∀ b, d = .bl b → Q b H'
def tA' (G : Sig) (W : WX) (r : Stt → R (List D)) : TA := fun σ H Q => ∃ w st, Sim G w st σ H ∧ Aft G W σ w st.S.length (r st) fun ds w' st' H' => ∀ vs, Reps G w' st'.S.length ds vs → Q vs H'

section
variable {G : Sig} {W : WX} {X : Cx} {py pa pb : Expr} {r ra rb : Stt → R D} {pos : Pos}
/-- the end of a value -/
abbrev EQ (G : Sig) (σ : L2.St) (K : D → Wd → Stt → Hp → Prop) : VK := fun v H1 => ∃ d w1 st1, Sim G w1 st1 σ H1 ∧ Rep G w1 st1.S.length d v ∧ K d w1 st1 H1
abbrev OQ (G : Sig) (σ : L2.St) (K : D → Wd → Stt → Hp → Prop) : VK := fun v H1 => ∃ d w1 st1 p o, v = .ref p ∧ d.toO = some o ∧ o.frz = some d ∧ Sim G w1 st1 σ H1 ∧ Fresh G w1 st1 σ H1 p o ∧ K d w1 st1 H1
abbrev TQ (G : Sig) (σ : L2.St) (K : D → Wd → Stt → Hp → Prop) : Bool → Hp → Prop := fun b H1 => ∃ w1 st1, Sim G w1 st1 σ H1 ∧ K (.bl b) w1 st1 H1
abbrev AQ (G : Sig) (σ : L2.St) (K : List D → Wd → Stt → Hp → Prop) : List V → Hp → Prop := fun vs H1 => ∃ ds w1 st1, Sim G w1 st1 σ H1 ∧ Reps G w1 st1.S.length ds vs ∧ K ds w1 st1 H1
variable {pins : List (Addr × Obj)} {s : Shared} {σ : L2.St} {H : Hp} {w : Wd} {st : Stt} {K : D → Wd → Stt → Hp → Prop}
theorem goE (h : PE X py (tE G W r)) (I : Inv X pins σ H s) (sm : Sim G w st σ H) (a : Aft G W σ w st.S.length (r st) K) :
    wpAny (model X.prog X.w) X.A (eval py X.env) (EP X pins σ (EQ G σ K)) X.xe s :=
  h.run pins s σ H _ I ⟨w, st, sm, a.imp fun d w1 st1 H1 _ s1 k v rp => ⟨d, w1, st1, s1, rp, k⟩⟩
theorem mkE (h : ∀ (pins : List (Addr × Obj)) (s : Shared) (σ : L2.St) (H : Hp) (w : Wd) (st : Stt) (K : D → Wd → Stt → Hp → Prop), Inv X pins σ H s → Sim G w st σ H → Aft G W σ w st.S.length (r st) K →
    wpAny (model X.prog X.w) X.A (eval py X.env) (EP X pins σ (EQ G σ K)) X.xe s) : PE X py (tE G W r) :=
  ⟨fun pins s σ H Q I ⟨w, st, sm, a⟩ => thn (h pins s σ H w st _ I sm a) fun u s1 ⟨v, H1, I1, rv, d, w1, st1, s1', rp, k⟩ => ⟨v, H1, I1, rv, k v rp⟩⟩
theorem goO (h : PE X py (tO G W r)) (I : Inv X pins σ H s) (sm : Sim G w st σ H) (a : Aft G W σ w st.S.length (r st) K) :
    wpAny (model X.prog X.w) X.A (eval py X.env) (EP X pins σ (OQ G σ K)) X.xe s :=
  h.run pins s σ H _ I ⟨w, st, sm, a.imp fun d w1 st1 H1 _ s1 k p o e1 e2 f => ⟨d, w1, st1, p, o, rfl, e1, e2, s1, f, k⟩⟩
theorem mkO (h : ∀ (pins : List (Addr × Obj)) (s : Shared) (σ : L2.St) (H : Hp) (w : Wd) (st : Stt) (K : D → Wd → Stt → Hp → Prop), Inv X pins σ H s → Sim G w st σ H → Aft G W σ w st.S.length (r st) K →
    wpAny (model X.prog X.w) X.A (eval py X.env) (EP X pins σ (OQ G σ K)) X.xe s) : PE X py (tO G W r) :=
  ⟨fun pins s σ H Q I ⟨w, st, sm, a⟩ => thn (h pins s σ H w st _ I sm a) fun u s1 ⟨v, H1, I1, rv, d, w1, st1, p, o, ev, e1, e2, s1', f, k⟩ => ⟨v, H1, I1, rv, by rw [ev]; exact k p o e1 e2 f⟩⟩
theorem goT (h : PT X py (tT G W r)) (I : Inv X pins σ H s) (sm : Sim G w st σ H) (a : Aft G W σ w st.S.length (r st) K) :
    wpAny (model X.prog X.w) X.A (isTrue py X.env (eval py X.env)) (TP X pins σ (TQ G σ K)) X.xe s :=
  h.run pins s σ H _ I ⟨w, st, sm, a.imp fun d w1 st1 H1 _ s1 k b e => ⟨w1, st1, s1, e ▸ k⟩⟩
theorem mkT (h : ∀ (pins : List (Addr × Obj)) (s : Shared) (σ : L2.St) (H : Hp) (w : Wd) (st : Stt) (K : D → Wd → Stt → Hp → Prop), Inv X pins σ H s → Sim G w st σ H → Aft G W σ w st.S.length (r st) K →
    wpAny (model X.prog X.w) X.A (isTrue py X.env (eval py X.env)) (TP X pins σ (TQ G σ K)) X.xe s) : PT X py (tT G W r) :=
  ⟨fun pins s σ H Q I ⟨w, st, sm, a⟩ => thn (h pins s σ H w st _ I sm a) fun b s1 ⟨H1, I1, w1, st1, s1', k⟩ => ⟨H1, I1, k b rfl⟩⟩
theorem goA {es : List Expr} {r : Stt → R (List D)} {K : List D → Wd → Stt → Hp → Prop} (h : PA X es (tA' G W r)) (pos : Pos) (I : Inv X pins σ H s) (sm : Sim G w st σ H) (a : Aft G W σ w st.S.length (r st) K) :
    wpAny (model X.prog X.w) X.A (spliced (backTo pos (starEach es X.env))) (AP X pins σ (AQ G σ K)) X.xe s :=
  h.run pos pins s σ H _ I ⟨w, st, sm, a.imp fun d w1 st1 H1 _ s1 k vs rp => ⟨d, w1, st1, s1, rp, k⟩⟩
/-- a value has come -/
theorem retE {u : Value} {v : V} {d : D} (I : Inv X pins σ H s) (rv : RelV v u) (sm : Sim G w st σ H) (rp : Rep G w st.S.length d v) (k : K d w st H) : EP X pins σ (EQ G σ K) u s := ⟨v, H, I, rv, d, w, st, sm, rp, k⟩
/-- .. where the answer is as it is -/
theorem retA {u : Value} {v : V} {d : D} (I : Inv X pins σ H s) (rv : RelV v u) (sm : Sim G w st σ H) (rp : Rep G w st.S.length d v) (a : Aft G W σ w st.S.length (.ok d st) K) : EP X pins σ (EQ G σ K) u s := retE I rv sm rp (a.ok sm)

/-- never asked so -/
theorem badO : PE X py (tO G W fun _ => .bad) := mkO fun _ _ _ _ _ _ _ _ _ a => a.elim
theorem badT : PT X py (tT G W fun _ => .bad) := mkT fun _ _ _ _ _ _ _ _ _ a => a.elim
theorem badE : PE X py (tE G W fun _ => .bad) := mkE fun _ _ _ _ _ _ _ _ _ a => a.elim
/-- a test of a value -/
theorem ptE (h : PE X py (tE G W r)) (he : ∀ whole, isTrue py X.env whole = (do let v ← whole; standAt py.pos; holding [v] (truthy v))) : PT X py (tT G W fun st => fin .t (r st)) := by
  refine mkT fun pins s σ H w st K I sm a => ?_
  refine isTrue_plain (thn (goE h I sm a.bnd) fun u s1 ⟨v, H1, I1, rv, d, w1, st1, s1', rp, l, k⟩ => ?_) (he _)
  obtain ⟨e, he, k⟩ := k.opt s1'
  cases d <;> simp only [truD, Option.map_some, Option.map_none, Option.some.injEq, reduceCtorEq] at he
  subst he
  cases rp
  cases rv
  exact wpAny_truthy_bool ⟨H1, I1, w1, st1, s1', k⟩

/-! ### leaves -/
theorem c_var {i : Nat} {x : Str} (hN : X.N[i]? = some x) (hv : Vis X.env.scope x) (hd : (x == ("__debug__" : Str)) = false) (hcd : (x == ("__classdict__" : Str)) = false) : PE X (.Name x pos) (tE G W (rdVar i)) := by
  refine ⟨fun pins s σ H Q I ⟨w, st, sm, a⟩ => ?_⟩
  cases e : rdVar i st with
  | ok d st' =>
    rw [e] at a
    obtain ⟨v, w', e1, l, s1, rp⟩ := sm.rd e
    exact (pe_var hN hv hd hcd).run pins s σ H Q I ⟨v, e1, a w' H l s1 v rp⟩
  | exc c d st' =>
    unfold rdVar at e
    split at e <;> try cases e
    split at e <;> cases e
  | bad => rw [e] at a; exact a.elim
theorem c_mv {i : Nat} {x : Str} (hN : X.N[i]? = some x) (hv : Vis X.env.scope x) (hd : (x == ("__debug__" : Str)) = false) (hcd : (x == ("__classdict__" : Str)) = false) : PE X (.Name x pos) (tO G W (mvVar i)) := by
  refine ⟨fun pins s σ H Q I ⟨w, st, sm, a⟩ => ?_⟩
  cases e : mvVar i st with
  | ok d st' =>
    rw [e] at a
    obtain ⟨p, o, e1, e2, e3, eS, s1, f⟩ := sm.mv e
    have l : Le w st.S.length w st'.S.length := by rw [eS]; exact Le.refl _ _
    exact (pe_var hN hv hd hcd).run pins s σ H Q I ⟨.ref p, e1, a w H l s1 p o e2 e3 f⟩
  | exc c d st' =>
    unfold mvVar at e
    split at e <;> try cases e
    split at e <;> cases e
  | bad => rw [e] at a; exact a.elim
/-- a constant's value -/
def cstV : D → Option V
  | .non => some .non
  | .bl b => some (.bl b)
  | .int i => some (.int i)
  | .str s => some (strV s)
  | _ => none
theorem cstV_rep {d : D} {v : V} (h : cstV d = some v) (w : Wd) (N : Nat) : Rep G w N d v := by
  cases d <;> simp only [cstV, Option.some.injEq, reduceCtorEq] at h <;> subst h
  · exact .non
  · exact .bl _
  · exact .int _
  · exact .str _
theorem c_tC {v : V} {d : D} (h : PE X py (tC v)) (hv : ∀ w N, Rep G w N d v) : PE X py (tE G W fun st => .ok d st) :=
  ⟨fun pins s σ H Q I ⟨w, st, sm, a⟩ => h.run pins s σ H Q I (a.ok sm v (hv _ _))⟩

/-! ### operators -/
theorem binE {α : Type} {f : Value → Value → Sem α} {Qf : α → Shared → Prop} {F : D → D → Stt → R β} {K : β → Wd → Stt → Hp → Prop} (ha : PE X pa (tE G W ra)) (hb : PE X pb (tE G W rb)) (I : Inv X pins σ H s) (sm : Sim G w st σ H)
    (a : Aft G W σ w st.S.length ((ra st).bnd fun x st => (rb st).bnd fun y st => F x y st) K)
    (hf : ∀ (v u : Value) (s2 : Shared) (x y : V) (d e : D) (H2 : Hp) (w2 : Wd) (st2 : Stt), Inv X pins σ H2 s2 → RelV x v → RelV y u → Sim G w2 st2 σ H2 → Rep G w2 st2.S.length d x → Rep G w2 st2.S.length e y →
      Aft G W σ w2 st2.S.length (F d e st2) K → wpAny (model X.prog X.w) X.A (f v u) Qf X.xe s2) :
    wpAny (model X.prog X.w) X.A (eval pa X.env) (fun v s₁ => wpAny (model X.prog X.w) X.A (eval pb X.env) (fun u s₂ => wpAny (model X.prog X.w) X.A (f v u) Qf X.xe s₂) X.xe s₁) X.xe s := by
  refine thn (goE ha I sm a.bnd) fun v s1 ⟨x, H1, I1, rx, d, w1, st1, s1', rp, l, k⟩ => ?_
  refine thn (goE hb I1 s1' k.bnd) fun u s2 ⟨y, H2, I2, ry, e, w2, st2, s2', rq, l2, k2⟩ => ?_
  exact hf v u s2 x y d e H2 w2 st2 I2 rx ry s2' (rp.mono l2) rq k2
theorem strV_append (a b : List Nat) : (⟨a.toArray⟩ : Str) ++ ⟨b.toArray⟩ = ⟨(a ++ b).toArray⟩ := by
  show (⟨a.toArray ++ b.toArray⟩ : Str) = _
  rw [List.append_toArray]
theorem strV_len (a : List Nat) : (⟨a.toArray⟩ : Str).length = a.length := by simp [Str.length]
theorem lim_le {n : Nat} (h : n ≤ LIM) : n ≤ sizeLine := Nat.le_trans h (by rw [sizeLine_eq]; decide)
theorem CMulW_of {i j : Int} (h : mulOk i j = true) : IntMulOk i j := by
  rcases of_decide_eq_true h with h | h | h
  · exact .of_left (intBits_le_64 (by omega) (by omega))
  · exact .of_right (intBits_le_64 (by omega) (by omega))
  · have b : ∀ x : Int, Builtin.Int.intBits x ≤ x.natAbs.log2 + 1 := fun x => by
      unfold Builtin.Int.intBits
      split <;> omega
    have h1 := b i
    have h2 := b j
    have e : bitsLine = 134217728 := by decide
    unfold IntMulOk
    intro z
    rw [Bool.and_eq_true] at z
    have z2 := z.2
    unfold Builtin.Int.intTooBig at z2
    have z3 := of_decide_eq_true z2
    rw [e] at z3
    unfold bits BITS at h
    omega
theorem powOk_of {i j : Int} (h : powOk i j = true) : 0 ≤ j ∧ (Builtin.Int.intBits i : Int) * j ≤ 2 ^ 27 := by
  obtain ⟨h1, h2⟩ := of_decide_eq_true h
  refine ⟨h1, ?_⟩
  have b : Builtin.Int.intBits i ≤ i.natAbs.log2 + 1 := by
    unfold Builtin.Int.intBits
    split <;> omega
  have b' : (Builtin.Int.intBits i : Int) ≤ (bits i : Int) + 1 := by unfold bits; omega
  have := Int.mul_le_mul_of_nonneg_right b' h1
  omega
/-- binD's answers -/
theorem bin_ok {op : Operator} {x y : V} {v u : Value} {d e g : D} (I : Inv X pins σ H s) (rx : RelV x v) (ry : RelV y u) (sm : Sim G w st σ H) (rp : Rep G w st.S.length d x) (rq : Rep G w st.S.length e y)
    (hb : binD op d e = some g) (k : K g w st H) : wpAny (model X.prog X.w) X.A (binaryOp op v u) (EP X pins σ (EQ G σ K)) X.xe s := by
  unfold binD at hb
  split at hb
  · cases rp; cases rq
    obtain ⟨t, rfl⟩ := rx; obtain ⟨t', rfl⟩ := ry
    cases hb
    exact add_int (retE (v := .int _) (I.tok _) ⟨_, rfl⟩ sm (.int _) k)
  · cases rp; cases rq
    split at hb <;> cases hb
    rename_i hl
    exact op_add_str pins s σ H _ _ _ _ _ I rx ry ⟨_, _, rfl, rfl, by rw [strV_len, strV_len]; exact lim_le hl, by
      rw [strV_append]
      exact ⟨_, w, st, sm, .str _, k⟩⟩
  · cases rp; cases rq
    obtain ⟨t, rfl⟩ := rx; obtain ⟨t', rfl⟩ := ry
    cases hb
    exact sub_int (retE (v := .int _) (I.tok _) ⟨_, rfl⟩ sm (.int _) k)
  · cases rp; cases rq
    split at hb <;> cases hb
    rename_i hm
    obtain ⟨t, rfl⟩ := rx; obtain ⟨t', rfl⟩ := ry
    exact mul_int (retE (v := .int _) (I.tok _) ⟨_, rfl⟩ sm (.int _) k) (CMulW_of hm)
  · cases rp; cases rq
    split at hb <;> cases hb
    rename_i hm
    obtain ⟨t, rfl⟩ := rx; obtain ⟨t', rfl⟩ := ry
    obtain ⟨h1, h2⟩ := of_decide_eq_true hm
    exact floordiv_int (by omega) (by rw [Int.fdiv_eq_ediv_of_nonneg _ (by omega)]; exact retE (v := .int _) (I.tok _) ⟨_, rfl⟩ sm (.int _) k) (.inl (PyProof.noPylong_of_log2 h2))
  · cases rp; cases rq
    split at hb <;> cases hb
    rename_i hm
    obtain ⟨t, rfl⟩ := rx; obtain ⟨t', rfl⟩ := ry
    exact mod_int' (by omega) (by rw [Int.fmod_eq_emod_of_nonneg _ (by omega)]; exact retE (v := .int _) (I.tok _) ⟨_, rfl⟩ sm (.int _) k)
  · cases rp; cases rq
    split at hb <;> cases hb
    rename_i hm
    obtain ⟨t, rfl⟩ := rx; obtain ⟨t', rfl⟩ := ry
    obtain ⟨h1, h2⟩ := powOk_of hm
    exact pow_int h1 h2 (retE (v := .int _) (I.tok _) ⟨_, rfl⟩ sm (.int _) k)
  · cases hb
/-- two lists, a list so often: a new one -/
theorem Reps.rep {d : D} {v : V} {N : Nat} (h : Rep G w N d v) : ∀ n : Nat, Reps G w N (List.replicate n d) (List.replicate n v)
  | 0 => .nil
  | n + 1 => .cons h (Reps.rep h n)
theorem flat_rep (v : V) : ∀ n : Nat, (List.replicate n [v]).flatten = List.replicate n v
  | 0 => rfl
  | n + 1 => by rw [List.replicate_succ, List.flatten_cons, flat_rep v n]; rfl
theorem binL_ok {op : Operator} {x y : V} {v u : Value} {d e g : D} (I : Inv X pins σ H s) (rx : RelV x v) (ry : RelV y u) (sm : Sim G w st σ H) (rp : Rep G w st.S.length d x) (rq : Rep G w st.S.length e y)
    (hb : binL op d e = some g) {Q : VK} (k : ∀ p ds vs, H p = none → g = .lst ds → vs.length ≤ sizeLine → Reps G w st.S.length ds vs → Q (.ref p) (upd H p (.lst vs))) : wpAny (model X.prog X.w) X.A (binaryOp op v u) (EP X pins σ Q) X.xe s := by
  unfold binL at hb
  split at hb
  · split at hb <;> cases hb
    rename_i hz
    cases rp with
    | lst ha la r =>
      cases rq with
      | lst hb lb q =>
        have e1 := r.length
        have e2 := q.length
        exact op_cat pins s σ H _ _ _ _ _ I rx ry ⟨_, _, _, _, rfl, rfl, sm.B _ _ ha, sm.B _ _ hb, by rw [← e1, ← e2]; exact lim_le hz, fun p hp => k p _ _ hp rfl (by rw [List.length_append, ← e1, ← e2]; exact lim_le hz) (r.append q)⟩
  · split at hb <;> cases hb
    rename_i hz
    cases rq
    cases rp with
    | lst ha la r =>
      cases r with
      | cons h0 r =>
        cases r
        have hs : sizeLine = 16777216 := sizeLine_eq
        refine op_rep pins s σ H _ _ _ _ _ I rx ry ⟨_, _, _, rfl, rfl, sm.B _ _ ha, by omega, by omega, by simp only [List.length_cons, List.length_nil]; omega, fun p hp => ?_⟩
        rw [flat_rep]
        exact k p _ _ hp rfl (by simp only [List.length_replicate]; omega) (.rep h0 _)
  · cases hb
theorem c_bin {op : Operator} (ha : PE X pa (tE G W ra)) (hb : PE X pb (tE G W rb)) : PE X (.BinOp pa op pb pos) (tE G W fun st => (ra st).bnd fun x st => (rb st).bnd fun y st => optR (binA op x y) st) := by
  refine mkE fun pins s σ H w st K I sm a => ?_
  refine wpAny_BinOp (binE ha hb I sm a fun v u s2 x y d e H2 w2 st2 I2 rx ry s2' rp rq k => ?_)
  obtain ⟨g, hg, k⟩ := k.opt'
  unfold binA at hg
  split at hg
  · rename_i g' e'
    cases hg
    refine binL_ok I2 rx ry s2' rp rq e' fun p ds vs hp eg hl r => ?_
    subst eg
    have l := le_put (N := st2.S.length) (ho := .lst vs) (s2'.bnone hp)
    exact ⟨_, w2.put p (.lst vs), st2, s2'.newB hp, .lst put_at hl (r.mono l), k _ _ l (s2'.newB hp)⟩
  · exact bin_ok I2 rx ry s2' rp rq hg (k.ok s2')
theorem c_binO {op : Operator} (ha : PE X pa (tE G W ra)) (hb : PE X pb (tE G W rb)) : PE X (.BinOp pa op pb pos) (tO G W fun st => (ra st).bnd fun x st => (rb st).bnd fun y st => optR (binL op x y) st) := by
  refine mkO fun pins s σ H w st K I sm a => ?_
  refine wpAny_BinOp (binE ha hb I sm a fun v u s2 x y d e H2 w2 st2 I2 rx ry s2' rp rq k => ?_)
  obtain ⟨g, hg, k⟩ := k.opt'
  refine binL_ok I2 rx ry s2' rp rq hg fun p ds vs hp eg hl r => ?_
  subst eg
  exact ⟨_, w2, st2, p, _, rfl, rfl, rfl, s2'.grow hp, s2'.fresh hp (.lst hl r) rfl, k _ _ (Le.refl _ _) (s2'.grow hp)⟩
/-- -a -/
theorem c_neg (ha : PE X pa (tE G W ra)) : PE X (.UnaryOp .USub pa pos) (tE G W fun st => (ra st).bnd fun x st => (match x with
    | .int i => .ok (.int (-i)) st
    | _ => .bad)) := by
  refine mkE fun pins s σ H w st K I sm a => ?_
  refine UnaryOp_ (thn (goE ha I sm a.bnd) fun v s1 ⟨x, H1, I1, rx, d, w1, st1, s1', rp, l, k⟩ => ?_)
  split at k
  · cases rp
    obtain ⟨t, rfl⟩ := rx
    exact neg_int (retE (v := .int _) (I1.tok _) ⟨_, rfl⟩ s1' (.int _) (k.ok s1'))
  · exact k.elim
/-- comparisons -/
theorem Rep.inj_alike {d e : D} {x y : V} {N : Nat} (rp : Rep G w N d x) (rq : Rep G w N e y) (h : alike d e = true) : scal x y = true ∧ decide (x = y) = decide (d = e) := by
  unfold alike at h
  split at h
  · cases rp; cases rq; exact ⟨rfl, by simp⟩
  · cases rp; cases rq; exact ⟨rfl, by simp [strV]⟩
  · cases rp; cases rq; exact ⟨rfl, by simp⟩
  · cases h
theorem Rep.non_iff {d : D} {x : V} {N : Nat} (rp : Rep G w N d x) : decide (x = .non) = decide (d = .non) := by
  cases rp <;> simp [strV]
theorem cmp_ok {op : CmpOp} {x y : V} {v u : Value} {d e g : D} (I : Inv X pins σ H s) (rx : RelV x v) (ry : RelV y u) (sm : Sim G w st σ H) (rp : Rep G w st.S.length d x) (rq : Rep G w st.S.length e y)
    (hb : cmpD op d e = some g) (k : K g w st H) : wpAny (model X.prog X.w) X.A (compareOp op v u) (EP X pins σ (EQ G σ K)) X.xe s := by
  have fin : ∀ b : Bool, g = .bl b → EQ G σ K (.bl b) H := fun b e => ⟨.bl b, w, st, sm, .bl b, e ▸ k⟩
  unfold cmpD at hb
  split at hb
  · cases rp; cases rq; cases hb
    exact op_lt pins s σ H _ _ _ _ _ I rx ry ⟨_, _, rfl, rfl, fin _ rfl⟩
  · cases rp; cases rq; cases hb
    exact op_le pins s σ H _ _ _ _ _ I rx ry ⟨_, _, rfl, rfl, fin _ rfl⟩
  · cases rp; cases rq; cases hb
    exact op_gt pins s σ H _ _ _ _ _ I rx ry ⟨_, _, rfl, rfl, fin _ rfl⟩
  · cases rp; cases rq; cases hb
    exact op_ge pins s σ H _ _ _ _ _ I rx ry ⟨_, _, rfl, rfl, fin _ rfl⟩
  · split at hb <;> cases hb
    rename_i ha
    obtain ⟨h1, h2⟩ := rp.inj_alike rq ha
    exact op_eq pins s σ H _ _ _ _ _ I rx ry ⟨h1, by rw [h2]; exact fin _ rfl⟩
  · split at hb <;> cases hb
    rename_i ha
    obtain ⟨h1, h2⟩ := rp.inj_alike rq ha
    exact op_ne pins s σ H _ _ _ _ _ I rx ry ⟨h1, by rw [h2]; exact fin _ rfl⟩
  · cases rq; cases hb
    exact op_isN pins s σ H _ _ _ _ _ I rx ry ⟨rfl, by rw [rp.non_iff]; exact fin _ rfl⟩
  · cases rq; cases hb
    exact op_notN pins s σ H _ _ _ _ _ I rx ry ⟨rfl, by rw [rp.non_iff]; exact fin _ rfl⟩
  · cases rp; cases rq; cases hb
    exact op_in_sign pins s σ H _ _ _ _ _ I rx ry ⟨_, _, rfl, rfl, fin _ rfl⟩
  · cases rp; cases rq; cases hb
    exact op_notIn_sign pins s σ H _ _ _ _ _ I rx ry ⟨_, _, rfl, rfl, fin _ rfl⟩
  · cases hb
theorem c_cmp {op : CmpOp} (ha : PE X pa (tE G W ra)) (hb : PE X pb (tE G W rb)) (h1 : behindInMarks op pb = false) : PE X (.Compare pa [op] [pb] pos) (tE G W fun st => (ra st).bnd fun x st => (rb st).bnd fun y st => optR (cmpD op x y) st) := by
  refine mkE fun pins s σ H w st K I sm a => ?_
  refine wpAny_Compare1 (binE ha hb I sm a fun v u s2 x y d e H2 w2 st2 I2 rx ry s2' rp rq k => ?_) h1
  obtain ⟨g, hg, k⟩ := k.opt'
  exact cmp_ok I2 rx ry s2' rp rq hg (k.ok s2')
theorem c_cmpT {op : CmpOp} (ha : PE X pa (tE G W ra)) (hb : PE X pb (tE G W rb)) (h1 : behindInMarks op pb = false) : PT X (.Compare pa [op] [pb] pos) (tT G W fun st => fin .t ((ra st).bnd fun x st => (rb st).bnd fun y st => optR (cmpD op x y) st)) := by
  refine mkT fun pins s σ H w st K I sm a => ?_
  refine wpAny_isTrue_Compare1 (binE (f := fun v u => compareOp op v u) (Qf := fun c s3 => wpAny (model X.prog X.w) X.A (truthy c) (TP X pins σ (TQ G σ K)) X.xe s3) ha hb I sm a.bnd fun v u s2 x y d e H2 w2 st2 I2 rx ry s2' rp rq k => ?_) h1
  obtain ⟨g, hg, k⟩ := k.opt'
  refine thn (cmp_ok (K := fun d w1 st1 _ => Aft G W σ w1 st1.S.length (optR ((truD d).map .bl) st1) K) I2 rx ry s2' rp rq hg (k.ok s2').2) fun c s3 ⟨v3, H3, I3, rv, d3, w3, st3, s3', rp3, k3⟩ => ?_
  obtain ⟨e3, he, k3⟩ := k3.opt s3'
  cases d3 <;> simp only [truD, Option.map_some, Option.map_none, Option.some.injEq, reduceCtorEq] at he
  subst he
  cases rp3
  cases rv
  exact wpAny_truthy_bool ⟨H3, I3, w3, st3, s3', k3⟩
/-- not, and, or: as values and as tests -/
abbrev notR (r : Stt → R D) : Stt → R D := fun st => (r st).bnd fun x st => (match x with
      | .bl b => .ok (.bl (!b)) st
      | _ => .bad)
abbrev andR (ra rb : Stt → R D) : Stt → R D := fun st => (ra st).bnd fun x st => (match x with
      | .bl true => rb st
      | .bl false => .ok (.bl false) st
      | _ => .bad)
abbrev orR (ra rb : Stt → R D) : Stt → R D := fun st => (ra st).bnd fun x st => (match x with
      | .bl true => .ok (.bl true) st
      | .bl false => rb st
      | _ => .bad)
abbrev ifR (rt ra rb : Stt → R D) : Stt → R D := fun st => (rt st).bnd fun x st => (match x with
      | .bl true => ra st
      | .bl false => rb st
      | _ => .bad)
theorem c_notT (ha : PT X pa (tT G W ra)) : PT X (.UnaryOp .Not pa pos) (tT G W (notR ra)) := by
  refine mkT fun pins s σ H w st K I sm a => ?_
  refine isTrue_not (thn (goT ha I sm a.bnd) fun b s1 ⟨H1, I1, w1, st1, s1', l, k⟩ => ?_)
  exact ⟨H1, I1, w1, st1, s1', k.ok s1'⟩
theorem c_not (ha : PE X pa (tE G W ra)) : PE X (.UnaryOp .Not pa pos) (tE G W (notR ra)) := by
  refine mkE fun pins s σ H w st K I sm a => ?_
  refine UnaryOp_ (thn (goE ha I sm a.bnd) fun v s1 ⟨x, H1, I1, r1, d, w1, st1, s1', rp, l, k⟩ => ?_)
  split at k
  · cases rp; cases r1
    exact not_of (wpAny_truthy_bool (retE (v := .bl _) I1 rfl s1' (.bl _) (k.ok s1')))
  · exact k.elim
theorem c_andT1 (ha : PT X pa (tT G W ra)) : PW X (.BoolOp .And [pa] pos) (tT G W ra) := pw_and1 ha
theorem c_andT {es : List Expr} (ha : PT X pa (tT G W ra)) (hb : PW X (.BoolOp .And (pb :: es) pos) (tT G W rb)) : PW X (.BoolOp .And (pa :: pb :: es) pos) (tT G W (andR ra rb)) := by
  refine ⟨fun wh pins s σ H Q I ⟨w, st, sm, a⟩ => ?_⟩
  refine isTrue_and (thn (goT ha I sm a.bnd) fun b s1 ⟨H1, I1, w1, st1, s1', l, k⟩ => ?_)
  cases b with
  | true => exact hb.run wh pins s1 σ H1 Q I1 ⟨w1, st1, s1', k⟩
  | false => exact ⟨H1, I1, k.ok s1' false rfl⟩
theorem c_orT {es : List Expr} (ha : PT X pa (tT G W ra)) (hb : PW X (.BoolOp .Or (pb :: es) pos) (tT G W rb)) : PW X (.BoolOp .Or (pa :: pb :: es) pos) (tT G W (orR ra rb)) := by
  refine ⟨fun wh pins s σ H Q I ⟨w, st, sm, a⟩ => ?_⟩
  refine isTrue_or (thn (goT ha I sm a.bnd) fun b s1 ⟨H1, I1, w1, st1, s1', l, k⟩ => ?_)
  cases b with
  | false => exact hb.run wh pins s1 σ H1 Q I1 ⟨w1, st1, s1', k⟩
  | true => exact ⟨H1, I1, k.ok s1' true rfl⟩
theorem c_and {es : List Expr} (ha : PE X pa (tE G W ra)) (hb : PE X (.BoolOp .And (pb :: es) pos) (tE G W rb)) : PE X (.BoolOp .And (pa :: pb :: es) pos) (tE G W (andR ra rb)) := by
  refine mkE fun pins s σ H w st K I sm a => ?_
  refine BoolOp_and (thn (goE ha I sm a.bnd) fun v s1 ⟨x, H1, I1, r1, d, w1, st1, s1', rp, l, k⟩ => ?_)
  split at k
  · cases rp; cases r1
    exact wpAny_truthy_bool (goE hb I1 s1' k)
  · cases rp; cases r1
    exact wpAny_truthy_bool (retE (v := .bl false) I1 rfl s1' (.bl _) (k.ok s1'))
  · exact k.elim
theorem c_or {es : List Expr} (ha : PE X pa (tE G W ra)) (hb : PE X (.BoolOp .Or (pb :: es) pos) (tE G W rb)) : PE X (.BoolOp .Or (pa :: pb :: es) pos) (tE G W (orR ra rb)) := by
  refine mkE fun pins s σ H w st K I sm a => ?_
  refine BoolOp_or (thn (goE ha I sm a.bnd) fun v s1 ⟨x, H1, I1, r1, d, w1, st1, s1', rp, l, k⟩ => ?_)
  split at k
  · cases rp; cases r1
    exact wpAny_truthy_bool (retE (v := .bl true) I1 rfl s1' (.bl _) (k.ok s1'))
  · cases rp; cases r1
    exact wpAny_truthy_bool (goE hb I1 s1' k)
  · exact k.elim
theorem c_ife {pt : Expr} {rt : Stt → R D} (ht : PT X pt (tT G W rt)) (ha : PE X pa (tE G W ra)) (hb : PE X pb (tE G W rb)) : PE X (.IfExp pt pa pb pos) (tE G W (ifR rt ra rb)) := by
  refine mkE fun pins s σ H w st K I sm a => ?_
  refine wpAny_IfExp (thn (goT ht I sm a.bnd) fun b s1 ⟨H1, I1, w1, st1, s1', l, k⟩ => ?_)
  cases b with
  | true => exact goE ha I1 s1' k
  | false => exact goE hb I1 s1' k
theorem c_ifeO {pt : Expr} {rt : Stt → R D} (ht : PT X pt (tT G W rt)) (ha : PE X pa (tO G W ra)) (hb : PE X pb (tO G W rb)) : PE X (.IfExp pt pa pb pos) (tO G W (ifR rt ra rb)) := by
  refine mkO fun pins s σ H w st K I sm a => ?_
  refine wpAny_IfExp (thn (goT ht I sm a.bnd) fun b s1 ⟨H1, I1, w1, st1, s1', l, k⟩ => ?_)
  cases b with
  | true => exact goO ha I1 s1' k
  | false => exact goO hb I1 s1' k

/-! ### argument lists, displays -/
theorem a_nil : PA X [] (tA' G W fun st => .ok [] st) := ⟨fun pos pins s σ H Q I ⟨w, st, sm, a⟩ => Calls.spliced_nil ⟨[], H, I, .nil, a.ok sm [] .nil⟩⟩
abbrev consR (ra : Stt → R D) (rs : Stt → R (List D)) : Stt → R (List D) := fun st => (ra st).bnd fun d st => (rs st).bnd fun ds st => .ok (d :: ds) st
theorem a_cons {es : List Expr} {rs : Stt → R (List D)} (ha : PE X pa (tE G W ra)) (hr : PA X es (tA' G W rs)) (hs : starEach (pa :: es) X.env = (false, eval pa X.env) :: starEach es X.env) : PA X (pa :: es) (tA' G W (consR ra rs)) := by
  refine ⟨fun pos pins s σ H Q I ⟨w, st, sm, a⟩ => ?_⟩
  rw [hs]
  show wpAny _ _ (spliced ((false, eval pa X.env) :: backTo pos (starEach es X.env))) _ _ s
  refine Calls.spliced_cons (thn (goE ha I sm a.bnd) fun u s1 ⟨x, H1, I1, r1, d, w1, st1, s1', rp, l, k⟩ => ?_)
  refine thn (goA hr pos I1 s1' k.bnd) fun us s2 ⟨xs, H2, I2, r2, ds, w2, st2, s2', rps, l2, k2⟩ => ?_
  exact ⟨x :: xs, H2, I2, .cons r1 r2, k2.ok s2' _ (.cons (rp.mono l2) rps)⟩
abbrev tupR (rs : Stt → R (List D)) : Stt → R D := fun st => (rs st).bnd fun ds st => .ok (.tup ds) st
abbrev lstR (rs : Stt → R (List D)) : Stt → R D := fun st => (rs st).bnd fun ds st => .ok (.lst ds) st
theorem c_tup {es : List Expr} {x1 : Nat} {rs : Stt → R (List D)} (h : PA X es (tA' G W rs)) (hl : ∀ st ds st', rs st = .ok ds st' → ds.length ≤ sizeLine) : PE X (.Tuple es x1 pos) (tE G W (tupR rs)) := by
  refine mkE fun pins s σ H w st K I sm a => ?_
  refine wpAny_Tuple_spliced (thn (goA h pos I sm a.bnd.eq) fun us s1 ⟨xs, H1, I1, r, ds, w1, st1, s1', rps, eq, l, k⟩ => ?_)
  have z : xs.length ≤ sizeLine := by rw [← rps.length]; exact hl _ _ _ eq
  refine ⟨by rw [← r.length]; exact z, ?_⟩
  have hf : H1 s1.heap.objs.size = none := I1.hok.fresh (Nat.le_refl _)
  have l2 := le_put (N := st1.S.length) (ho := .tup xs) (s1'.bnone hf)
  refine ⟨.ref s1.heap.objs.size, upd H1 s1.heap.objs.size (.tup xs), I1.laid (t' := s1.toks) (fun b u e => Heap.get?_push_of_some _ e) (Nat.le_refl _) ?_, rfl,
    _, _, st1, s1'.newB hf, .tup (.inl (.inl put_at)) z (rps.mono l2), k _ _ l2 (s1'.newB hf)⟩
  exact ⟨z, us, r, ⟨_, Heap.get?_push_size _ rfl, rfl, _, rfl⟩⟩
theorem lst_run {es : List Expr} {rs : Stt → R (List D)} (h : PA X es (tA' G W rs)) (hl : ∀ st ds st', rs st = .ok ds st' → ds.length ≤ sizeLine) (I : Inv X pins σ H s) (sm : Sim G w st σ H) {Q : VK} {K : List D → Wd → Stt → Hp → Prop} (a : Aft G W σ w st.S.length (rs st) K)
    (k : ∀ p ds vs w1 st1 H1, H1 p = none → Sim G w1 st1 σ H1 → vs.length ≤ sizeLine → Reps G w1 st1.S.length ds vs → K ds w1 st1 H1 → Q (.ref p) (upd H1 p (.lst vs))) :
    wpAny (model X.prog X.w) X.A (eval (.List es pos) X.env) (EP X pins σ Q) X.xe s := by
  refine wpAny_List_spliced (thn (goA h pos I sm a.eq) fun us s1 ⟨xs, H1, I1, r, ds, w1, st1, s1', rps, eq, k1⟩ => ?_)
  have z : xs.length ≤ sizeLine := by rw [← rps.length]; exact hl _ _ _ eq
  refine ⟨by rw [← r.length]; exact z, ?_⟩
  have hf : H1 s1.heap.objs.size = none := I1.hok.fresh (Nat.le_refl _)
  refine ⟨.ref s1.heap.objs.size, upd H1 s1.heap.objs.size (.lst xs), I1.laid (t' := s1.toks) (fun b u e => Heap.get?_push_of_some _ e) (Nat.le_refl _) ?_, rfl, k _ _ _ _ _ _ hf s1' z rps k1⟩
  exact ⟨z, us, 0, r, Heap.get?_push_size _ rfl⟩
theorem c_lst {es : List Expr} {rs : Stt → R (List D)} (h : PA X es (tA' G W rs)) (hl : ∀ st ds st', rs st = .ok ds st' → ds.length ≤ sizeLine) : PE X (.List es pos) (tE G W (lstR rs)) := by
  refine mkE fun pins s σ H w st K I sm a => lst_run h hl I sm a.bnd fun p ds vs w1 st1 H1 hp s1 z rps k => ?_
  have l := le_put (N := st1.S.length) (ho := .lst vs) (s1.bnone hp)
  exact ⟨_, _, st1, s1.newB hp, .lst put_at z (rps.mono l), k.2 _ _ l (s1.newB hp)⟩
theorem c_lstO {es : List Expr} {rs : Stt → R (List D)} (h : PA X es (tA' G W rs)) (hl : ∀ st ds st', rs st = .ok ds st' → ds.length ≤ sizeLine) : PE X (.List es pos) (tO G W (lstR rs)) := by
  refine mkO fun pins s σ H w st K I sm a => lst_run h hl I sm a.bnd fun p ds vs w1 st1 H1 hp s1 z rps k => ?_
  exact ⟨_, w1, st1, p, _, rfl, rfl, rfl, s1.grow hp, s1.fresh hp (.lst z rps) rfl, k.2 _ _ (Le.refl _ _) (s1.grow hp)⟩
abbrev celR (r : Stt → R D) : Stt → R D := fun st => (r st).bnd fun d st => (optR d.toO st).bnd fun o st => .ok (.cell st.S.length) ⟨st.σ, st.S ++ [o]⟩
theorem c_cel (h : PE X py (tO G W r)) : PE X py (tE G W (celR r)) := by
  refine mkE fun pins s σ H w st K I sm a => ?_
  refine thn (goO h I sm a.bnd) fun u s1 ⟨v, H1, I1, rv, d, w1, st1, p, o, ev, e1, e2, s1', f, l, k⟩ => ?_
  subst ev
  obtain ⟨o', eo, k⟩ := k.bnd.opt s1'
  rw [e1] at eo
  cases eo
  obtain ⟨l2, s2⟩ := s1'.newCell f
  have k3 := k.2 _ H1 l2 s2
  refine ⟨.ref p, H1, I1, rv, _, _, _, s2, ?_, k3⟩
  have e : p = (fun m => if m = st1.S.length then p else w1.φ m) st1.S.length := by simp
  have := Rep.cell (G := G) (w := ⟨w1.B, w1.P, fun m => if m = st1.S.length then p else w1.φ m⟩) (N := (st1.S ++ [o]).length) (n := st1.S.length) (by simp)
  simpa using this
end
end Tp

/-! Tp: subscripts, calls, built-ins. -/
namespace Tp
open PySem PySem.Spec PyProof.Rows L2
section
variable {G : Sig} {W : WX} {X : Cx} {py pa pb : Expr} {r ra rb : Stt → R D} {pos : Pos}
variable {pins : List (Addr × Obj)} {s : Shared} {σ : L2.St} {H : Hp} {w : Wd} {st : Stt} {K : D → Wd → Stt → Hp → Prop}

/-! ### what is seen of a value -/
inductive VwOk (G : Sig) (w : Wd) (N : Nat) (H : Hp) : Vw → V → Prop
  | lst {a : Addr} {ds : List D} {vs : List V} (h : SqL G.K H a vs) (hl : vs.length ≤ sizeLine) (r : Reps G w N ds vs) : VwOk G w N H (.lst ds) (.ref a)
  | tup {a : Addr} {ds : List D} {vs : List V} (h : SqT G.K H a vs) (hl : vs.length ≤ sizeLine) (r : Reps G w N ds vs) : VwOk G w N H (.tup ds) (.ref a)
  | str (z : List Nat) : VwOk G w N H (.str z) (strV z)
  | no (v : V) : VwOk G w N H .no v
theorem ORep.vwOk {N : Nat} {o : O} {ho : HO} {a : Addr} (r : ORep G w N o ho) (h : H a = some ho) : VwOk G w N H o.vw (.ref a) := by
  cases r with
  | lst hl r => exact .lst (.inl (.inl h)) hl r
theorem Sim.vwB (sm : Sim G w st σ H) {d : D} {v : V} (rp : Rep G w st.S.length d v) : VwOk G w st.S.length H d.vw v := by
  cases rp with
  | tup h hl r => exact .tup (sqT_mono sm.B h) hl r
  | lst h hl r => exact .lst (.inl (.inl (sm.B _ _ h))) hl r
  | ro h hl r => exact .lst (sqL_mono sm.B h) hl r
  | str z => exact .str z
  | _ => exact .no _
theorem Sim.vw (sm : Sim G w st σ H) {d : D} {v : V} (rp : Rep G w st.S.length d v) : VwOk G w st.S.length H (vwOf st.S d) v := by
  cases rp with
  | cell h =>
    unfold vwOf
    rename_i n
    simp only
    have e : st.S[n]? = some st.S[n] := List.getElem?_eq_getElem h
    rw [e]
    show VwOk G w st.S.length H st.S[n].vw (.ref (w.φ n))
    cases ho : Tp.live st.S[n] with
    | true =>
      obtain ⟨u, h1, h2⟩ := sm.cellAt e ho
      exact h2.vwOk h1
    | false =>
      cases q : st.S[n] with
      | fz d => exact sm.vwB (sm.fz n d (by rw [e, q]))
      | _ => rw [q] at ho; cases ho
  | tup h hl r => exact sm.vwB (.tup h hl r)
  | lst h hl r => exact sm.vwB (.lst h hl r)
  | ro h hl r => exact sm.vwB (.ro h hl r)
  | str z => exact sm.vwB (.str z)
  | non => exact sm.vwB .non
  | bl b => exact sm.vwB (.bl b)
  | int i => exact sm.vwB (.int i)
  | fn n => exact sm.vwB (.fn n)
theorem Sim.pk (sm : Sim G w st σ H) {i : Nat} {z : Vw} (h : pkVar i st = some z) : ∃ v, σ[i]? = some (some v) ∧ VwOk G w st.S.length H z v := by
  unfold pkVar at h
  split at h
  · rename_i d e
    obtain ⟨v, e1, rp⟩ := sm.val i d e
    cases h
    exact ⟨v, e1, sm.vw rp⟩
  · rename_i o e
    obtain ⟨a, ho, e1, _, h1, h2, _⟩ := sm.ownAt e
    cases h
    exact ⟨.ref a, e1, h2.vwOk h1⟩
  · cases h

/-! ### subscripts -/
theorem reps_at {ds : List D} {vs : List V} {N : Nat} {i : Int} {d : D} (r : Reps G w N ds vs) (h : L2.atI ds i = some d) : ∃ v, L2.atI vs i = some v ∧ Rep G w N d v := by
  unfold L2.atI at h ⊢
  rw [← r.length]
  cases e : L2.ixN ds.length i with
  | none => rw [e] at h; cases h
  | some j =>
    rw [e] at h
    exact r.get h
theorem atI_strs {z : List Nat} {i : Int} : L2.atI (⟨z.toArray⟩ : Str).cps.toList i = L2.atI z i := rfl
theorem sub_ok {z : Vw} {x y : V} {v u : Value} {e g : D} {N : Nat} {pe pi : Expr} (hK : X.K = G.K) (I : Inv X pins σ H s) (rx : RelV x v) (ry : RelV y u) (vw : VwOk G w N H z x) (rq : Rep G w N e y)
    (hb : subD z e = some g) (hs : subscripted pi false v u = operate [v, u] (getItem v u)) {Q : VK} (k : ∀ y, Rep G w N g y → Q y H) : wpAny (model X.prog X.w) X.A (subscriptTail pe pi v u) (EP X pins σ Q) X.xe s := by
  unfold subD at hb
  split at hb
  · cases rq
    cases vw with
    | lst h hl r =>
      obtain ⟨y, e1, rp⟩ := reps_at r hb
      exact ix_list pe pi pins s σ H _ _ _ _ _ I rx ry ⟨_, _, _, y, rfl, rfl, by rw [hK]; exact h, e1, k y rp⟩ hs
  · cases rq
    cases vw with
    | tup h hl r =>
      obtain ⟨y, e1, rp⟩ := reps_at r hb
      exact ix_tup pe pi pins s σ H _ _ _ _ _ I rx ry ⟨_, _, _, y, rfl, rfl, by rw [hK]; exact h, e1, k y rp⟩ hs
  · cases rq
    split at hb
    · rename_i hz
      cases vw with
      | str z =>
        obtain ⟨c, e, eg⟩ := Option.map_eq_some_iff.mp hb
        · subst eg
          exact ix_str pe pi pins s σ H _ _ _ _ _ I rx ry ⟨_, _, c, rfl, rfl, by rw [strV_len]; exact lim_le hz, e, k _ (.str [c])⟩ hs
    · cases hb
  · cases vw
  · cases hb
theorem c_sub (hK : X.K = G.K) (ha : PE X pa (tE G W ra)) (hb : PE X pb (tE G W rb)) (hs : PlainIx pb) : PE X (.Subscript pa pb pos) (tE G W fun st => (ra st).bnd fun x st => (rb st).bnd fun y st => optR (subD (vwOf st.S x) y) st) := by
  refine mkE fun pins s σ H w st K I sm a => ?_
  refine Subscript_ (binE (f := fun v u => subscriptTail pa pb v u) ha hb I sm a fun v u s2 x y d e H2 w2 st2 I2 rx ry s2' rp rq k => ?_)
  obtain ⟨g, hg, k⟩ := k.opt s2'
  exact sub_ok hK I2 rx ry (s2'.vw rp) rq hg (hs _ _) fun y rp => ⟨g, w2, st2, s2', rp, k⟩
theorem c_subV {i : Nat} {x : Str} {p : Pos} (hK : X.K = G.K) (hN : X.N[i]? = some x) (hv : Vis X.env.scope x) (hd : (x == ("__debug__" : Str)) = false) (hcd : (x == ("__classdict__" : Str)) = false) (hb : PE X pb (tE G W rb)) (hs : PlainIx pb) :
    PE X (.Subscript (.Name x p) pb pos) (tE G W fun st => (optR (pkVar i st) st).bnd fun _ st => (rb st).bnd fun y st => (optR (pkVar i st) st).bnd fun v st => optR (subD v y) st) := by
  refine mkE fun pins s σ H w st K I sm a => ?_
  obtain ⟨z0, e0, a⟩ := a.bnd.opt sm
  obtain ⟨v0, ev0, _⟩ := sm.pk e0
  refine Subscript_ (thn ((pe_var hN hv hd hcd).run pins s σ H (fun v H' => v = v0 ∧ H' = H) I ⟨v0, ev0, rfl, rfl⟩) fun v s1 ⟨x1, H1, I1, rx, ex, eH⟩ => ?_)
  subst ex eH
  refine thn (goE hb I1 sm a.2.bnd) fun u s2 ⟨y, H2, I2, ry, d, w1, st1, s1', rp, l, k⟩ => ?_
  obtain ⟨z, ez, k⟩ := k.bnd.opt s1'
  obtain ⟨v2, ev2, vw⟩ := s1'.pk ez
  rw [ev0] at ev2
  cases ev2
  obtain ⟨g, hg, k⟩ := k.2.opt s1'
  exact sub_ok hK I2 rx ry vw rp hg (hs _ _) fun y rp => ⟨g, w1, st1, s1', rp, k⟩

/-! ### slices -/
theorem cut_sub {α β : Type} (xs : List α) (lo hi : Option Int) (f : α → β) : (cut xs lo hi).map f = cut (xs.map f) lo hi := by
  unfold cut
  rw [List.map_take, List.map_drop, List.length_map]
theorem Reps.cut {ds : List D} {vs : List V} {N : Nat} (r : Reps G w N ds vs) (lo hi : Option Int) : Reps G w N (Tp.cut ds lo hi) (cutV vs lo hi) := by
  unfold Tp.cut cutV
  rw [← r.length]
  exact (r.drop _).take _
structure POk (X : Cx) (G : Sig) (W : WX) (e : Option Expr) (r : Stt → R (Option Int)) : Prop where
  run : ∀ (pins : List (Addr × Obj)) (s : Shared) (σ : L2.St) (H : Hp) (w : Wd) (st : Stt) (K : Option Int → Wd → Stt → Hp → Prop), Inv X pins σ H s → Sim G w st σ H → Aft G W σ w st.S.length (r st) K →
    wpAny (model X.prog X.w) X.A (evalPart e X.env) (fun u s' => ∃ o H' w1 st1, Inv X pins σ H' s' ∧ IsPart u o ∧ Sim G w1 st1 σ H' ∧ K o w1 st1 H') X.xe s
theorem p_none : POk X G W none (fun st => .ok none st) := ⟨fun pins s σ H w st K I sm a => by
  rw [evalPart_none]
  exact wpAny_pure ⟨none, H, w, st, I, .none, sm, a.ok sm⟩⟩
theorem p_some (h : PE X py (tE G W r)) : POk X G W (some py) (fun st => (r st).bnd fun d st => optR (intO d) st) := ⟨fun pins s σ H w st K I sm a => by
  rw [evalPart_some]
  refine thn (goE h I sm a.bnd) fun u s1 ⟨x, H1, I1, r1, d, w1, st1, s1', rp, l, k⟩ => ?_
  obtain ⟨o, eo, k⟩ := k.opt s1'
  cases rp <;> simp only [intO, reduceCtorEq] at eo
  cases eo
  obtain ⟨t, rfl⟩ := r1
  exact ⟨_, H1, w1, st1, I1, .int _ t, s1', k⟩⟩
/-- a[lo:hi], run to the slice itself -/
theorem slice_run {lo hi : Option Expr} {rl rh : Stt → R (Option Int)} {p2 : Pos} {F : D → Option Int → Option Int → Stt → R D} (ha : PE X pa (tE G W ra)) (hl : POk X G W lo rl) (hu : POk X G W hi rh)
    (I : Inv X pins σ H s) (sm : Sim G w st σ H) (a : Aft G W σ w st.S.length ((ra st).bnd fun x st => (rl st).bnd fun l st => (rh st).bnd fun h st => F x l h st) K) {Q : VK}
    (k : ∀ (s4 : Shared) (H4 : Hp) (x : V) (v vl vu : Value) (l h : Option Int) (sl : Addr) (d : D) (w4 : Wd) (st4 : Stt), Inv X pins σ H4 s4 → RelV x v → s4.heap.IsSliceOf sl vl vu .none → IsPart vl l → IsPart vu h → Sim G w4 st4 σ H4 → Rep G w4 st4.S.length d x →
      Aft G W σ w4 st4.S.length (F d l h st4) K → ∃ T id, typeLookup (.type T) "__getitem__" = pure (some (.builtin id)) ∧ s4.TypeIs v T ∧ wpAny (model X.prog X.w) X.A (getItem v (.ref sl)) (EP X pins σ Q) X.xe s4) :
    wpAny (model X.prog X.w) X.A (eval (.Subscript pa (.Slice lo hi none p2) pos) X.env) (EP X pins σ Q) X.xe s := by
  refine Subscript_ (thn (goE ha I sm a.bnd) fun v s1 ⟨x, H1, I1, r1, d, w1, st1, s1', rp, l1, k1⟩ => ?_)
  refine wpAny_Slice (thn (hl.run pins s1 σ H1 w1 st1 _ I1 s1' k1.bnd) fun vl s2 ⟨l, H2, w2, st2, I2, pl, s2', l2, k2⟩ => thn (hu.run pins s2 σ H2 w2 st2 _ I2 s2' k2.bnd) fun vu s3 ⟨u, H3, w3, st3, I3, pu, s3', l3, k3⟩ => ?_)
  rw [evalPart_none]
  refine wpAny_pure ?_
  have I4 : Inv X pins σ H3 { s3 with heap := s3.heap.push { cls := .type "slice", data := .fields #[vl, vu, .none] } } := I3.kept (t' := s3.toks) fun b ob q => Heap.get?_push_of_some _ q
  obtain ⟨T, id, hT, ht, hg⟩ := k { s3 with heap := s3.heap.push { cls := .type "slice", data := .fields #[vl, vu, .none] } } H3 x v vl vu l u s3.heap.objs.size d w3 st3 I4 r1 (Heap.IsSliceOf.new ..) pl pu s3' ((rp.mono l2).mono l3) k3
  show wpAny (model X.prog X.w) X.A (subscriptTail pa (.Slice lo hi none p2) v (.ref s3.heap.objs.size)) (EP X pins σ Q) X.xe { s3 with heap := s3.heap.push { cls := .type "slice", data := .fields #[vl, vu, .none] } }
  exact tail_any (ops := [.ref s3.heap.objs.size, v]) ht hT hg (by with_unfolding_all rfl)
theorem cutS_eq (z : List Nat) (lo hi : Option Int) : cutS ⟨z.toArray⟩ lo hi = ⟨(cut z lo hi).toArray⟩ := by
  unfold cutS Tp.cut
  rw [strV_len]
theorem c_slc {lo hi : Option Expr} {rl rh : Stt → R (Option Int)} {p2 : Pos} (hK : X.K = G.K) (ha : PE X pa (tE G W ra)) (hl : POk X G W lo rl) (hu : POk X G W hi rh) :
    PE X (.Subscript pa (.Slice lo hi none p2) pos) (tE G W fun st => (ra st).bnd fun x st => (rl st).bnd fun l st => (rh st).bnd fun h st => optR (slcD (vwOf st.S x) l h) st) := by
  refine mkE fun pins s σ H w st K I sm a => ?_
  refine slice_run ha hl hu I sm a fun s4 H4 x v vl vu l h sl d w4 st4 I4 rx hs pl pu s4' rp k => ?_
  obtain ⟨g, hg, k⟩ := k.opt'
  have vw := s4'.vw rp
  unfold slcD at hg
  split at hg
  · rename_i e
    rw [e] at vw
    cases vw with
    | @lst a ds vs hq hl r =>
      cases hg
      refine sl_list pins s4 σ H4 _ v vl vu l h sl _ I4 rx hs pl pu ⟨_, _, rfl, by rw [hK]; exact hq, fun p hp => ?_⟩
      have l5 := le_put (N := st4.S.length) (ho := .lst (cutV vs l h)) (s4'.bnone hp)
      exact ⟨_, _, st4, s4'.newB hp, .lst put_at (Nat.le_trans (cutV_length _ _ _) hl) ((r.cut l h).mono l5), k _ _ l5 (s4'.newB hp)⟩
  · rename_i e
    rw [e] at vw
    cases vw with
    | @tup a ds vs hq hl r =>
      split at hg <;> cases hg
      rename_i hn
      refine sl_tup pins s4 σ H4 _ v vl vu l h sl _ I4 rx hs pl pu ⟨_, _, rfl, by rw [hK]; exact hq, by rw [← r.length]; exact hn, fun p hp => ?_⟩
      have l5 := le_put (N := st4.S.length) (ho := .tup (cutV vs l h)) (s4'.bnone hp)
      exact ⟨_, _, st4, s4'.newB hp, .tup (.inl (.inl put_at)) (Nat.le_trans (cutV_length _ _ _) hl) ((r.cut l h).mono l5), k _ _ l5 (s4'.newB hp)⟩
  · rename_i e
    rw [e] at vw
    cases vw with
    | str z =>
      split at hg <;> cases hg
      rename_i hz
      refine sl_str pins s4 σ H4 _ v vl vu l h sl _ I4 rx hs pl pu ⟨_, rfl, by rw [strV_len]; exact lim_le hz, ?_⟩
      rw [cutS_eq]
      exact ⟨_, w4, st4, s4', .str _, k.ok s4'⟩
  · cases hg
/-- a list's slice as a new list -/
theorem c_slcO {lo hi : Option Expr} {rl rh : Stt → R (Option Int)} {p2 : Pos} (hK : X.K = G.K) (ha : PE X pa (tE G W ra)) (hl : POk X G W lo rl) (hu : POk X G W hi rh) :
    PE X (.Subscript pa (.Slice lo hi none p2) pos) (tO G W fun st => (ra st).bnd fun x st => (rl st).bnd fun l st => (rh st).bnd fun h st => (match vwOf st.S x with
      | .lst xs => .ok (.lst (cut xs l h)) st
      | _ => .bad)) := by
  refine mkO fun pins s σ H w st K I sm a => ?_
  refine slice_run ha hl hu I sm a fun s4 H4 x v vl vu l h sl d w4 st4 I4 rx hs pl pu s4' rp k => ?_
  have vw := s4'.vw rp
  split at k
  · rename_i e
    rw [e] at vw
    cases vw with
    | @lst a ds vs hq hl r =>
      refine sl_list pins s4 σ H4 _ v vl vu l h sl _ I4 rx hs pl pu ⟨_, _, rfl, by rw [hK]; exact hq, fun p hp => ?_⟩
      exact ⟨_, w4, st4, p, _, rfl, rfl, rfl, s4'.grow hp, s4'.fresh hp (.lst (Nat.le_trans (cutV_length _ _ _) hl) (r.cut l h)) rfl, k _ _ (Le.refl _ _) (s4'.grow hp)⟩
  · exact k.elim

/-! ### calls -/
/-- what a callee must leave as it is -/
noncomputable def outP (w : Wd) (S : List O) (H : Hp) : Hp := fun a => by
  classical exact if w.B a ≠ none ∨ ∃ n o, liveO ⟨[], S⟩ (.c n) = some o ∧ w.φ n = a then none else H a
theorem outP_eq {S : List O} {a : Addr} (h1 : w.B a = none) (h2 : ∀ n o, liveO ⟨[], S⟩ (.c n) = some o → w.φ n ≠ a) : outP w S H a = H a := by
  unfold outP
  rw [if_neg]
  rintro (h | ⟨n, o, h, e⟩)
  · exact h h1
  · exact h2 n o h e
theorem outP_some {S : List O} {a : Addr} {o : HO} (h : outP w S H a = some o) : H a = some o ∧ w.B a = none ∧ ∀ n o, liveO ⟨[], S⟩ (.c n) = some o → w.φ n ≠ a := by
  unfold outP at h
  split at h
  · cases h
  · rename_i q
    refine ⟨h, ?_, fun n o e z => q (.inr ⟨n, o, e, z⟩)⟩
    cases e : w.B a with
    | none => rfl
    | some u => exact (q (.inl (by rw [e]; simp))).elim
theorem liveO_c0 {σ : List Sl} {S : List O} {n : Nat} : liveO ⟨σ, S⟩ (.c n) = liveO ⟨[], S⟩ (.c n) := rfl
theorem liveO_s0 {S : List O} {i : Nat} {o : O} (h : liveO ⟨[], S⟩ (.s i) = some o) : False := by
  simp [liveO_s] at h
theorem Sim.callee (sm : Sim G w st σ H) : Sim G ⟨w.B, outP w st.S H, w.φ⟩ ⟨[], st.S⟩ [] H := by
  have kc : ∀ k o, liveO ⟨[], st.S⟩ k = some o → ∃ n, k = .c n := fun k o h => by
    cases k with
    | s i => exact (liveO_s0 h).elim
    | c n => exact ⟨n, rfl⟩
  refine ⟨sm.B, fun a o h => (outP_some h).1, fun a o h => ?_, rfl, fun i d h => by simp at h, fun i o h => by simp at h, fun k o h => ?_, fun k k' o o' h h' e => ?_, fun n d h => (sm.fz n d h).sw rfl rfl⟩
  · show outP w st.S H a = none
    unfold outP
    rw [if_pos (.inl (by have h' : w.B a = some o := h; rw [h']; simp))]
  · obtain ⟨n, rfl⟩ := kc k o h
    obtain ⟨ho, h1, h2, h3, _⟩ := sm.live (.c n) o h
    refine ⟨ho, h1, h2.sw rfl rfl, h3, ?_⟩
    show outP w st.S H (w.φ n) = none
    unfold outP
    rw [if_pos (.inr ⟨n, o, h, rfl⟩)]
  · obtain ⟨n, rfl⟩ := kc k o h
    obtain ⟨m, rfl⟩ := kc k' o' h'
    exact sm.inj (.c n) (.c m) o o' h h' e
/-- behind the call -/
theorem Sim.back {w' : Wd} {S' : List O} {H' : Hp} (sm : Sim G w st σ H) (l : Le ⟨w.B, outP w st.S H, w.φ⟩ st.S.length w' S'.length) (sm' : Sim G w' ⟨[], S'⟩ [] H') :
    Le w st.S.length ⟨w'.B, w.P, w'.φ⟩ S'.length ∧ Sim G ⟨w'.B, w.P, w'.φ⟩ ⟨st.σ, S'⟩ σ H' := by
  have l' : Le w st.S.length ⟨w'.B, w.P, w'.φ⟩ S'.length := ⟨l.B, rfl, l.φ, l.N⟩
  have hP : ∀ {a o}, outP w st.S H a = some o → w'.P a = some o := fun {a o} h => by rw [l.P]; exact h
  have pOut : ∀ a o, w.P a = some o → outP w st.S H a = some o := fun a o h => by
    rw [outP_eq]
    · exact sm.P a o h
    · cases e : w.B a with
      | none => rfl
      | some u => have := sm.BP a u e; rw [h] at this; cases this
    · intro n o' e z
      obtain ⟨_, _, _, _, q⟩ := sm.live (.c n) o' e
      have q : w.P (w.φ n) = none := q
      rw [z, h] at q; cases q
  -- an own object of the caller
  have own : ∀ i o, liveO ⟨st.σ, S'⟩ (.s i) = some o → ∃ ho, outP w st.S H (adr w.φ σ (.s i)) = some ho ∧ ORep G w st.S.length o ho ∧ w.P (adr w.φ σ (.s i)) = none := fun i o h => by
    obtain ⟨ho, h1, h2, h3, h4⟩ := sm.live (.s i) o h
    refine ⟨ho, ?_, h2, h4⟩
    rw [outP_eq h3 fun n o' e z => ?_]
    · exact h1
    · have := sm.inj (.c n) (.s i) o' o e h z
      cases this
  refine ⟨l', sm'.B, fun a o h => sm'.P a o (hP (pOut a o h)), fun a o h => ?_, sm.len, fun i d h => ?_, sm.own, fun k o h => ?_, fun k k' o o' h h' e => ?_, fun n d h => (sm'.fz n d h).sw rfl rfl⟩
  · cases e : w.P a with
    | none => rfl
    | some u =>
      have := sm'.BP a o h
      rw [hP (pOut a u e)] at this; cases this
  · obtain ⟨v, a, b⟩ := sm.val i d h
    exact ⟨v, a, b.mono l'⟩
  · cases k with
    | s i =>
      obtain ⟨ho, h1, h2, h3⟩ := own i o h
      refine ⟨ho, sm'.P _ _ (hP h1), h2.mono l', ?_, h3⟩
      show w'.B (adr w.φ σ (.s i)) = none
      cases e : w'.B (adr w.φ σ (.s i)) with
      | none => rfl
      | some u =>
        have := sm'.BP _ _ e
        rw [hP h1] at this; cases this
    | c n =>
      obtain ⟨ho, h1, h2, h3, h4⟩ := sm'.live (.c n) o h
      refine ⟨ho, h1, h2.sw rfl rfl, h3, ?_⟩
      show w.P (w'.φ n) = none
      cases e : w.P (w'.φ n) with
      | none => rfl
      | some u =>
        have h4 : w'.P (w'.φ n) = none := h4
        rw [hP (pOut _ u e)] at h4; cases h4
  · have cs : ∀ i n o o', liveO ⟨st.σ, S'⟩ (.s i) = some o → liveO ⟨st.σ, S'⟩ (.c n) = some o' → adr w.φ σ (.s i) ≠ w'.φ n := fun i n o o' h h' z => by
      obtain ⟨ho, h1, _⟩ := own i o h
      obtain ⟨_, _, _, _, h4⟩ := sm'.live (.c n) o' h'
      have h4 : w'.P (w'.φ n) = none := h4
      rw [← z, hP h1] at h4; cases h4
    cases k with
    | s i =>
      cases k' with
      | s j => exact sm.inj (.s i) (.s j) o o' h h' e
      | c n => exact (cs i n o o' h h' e).elim
    | c n =>
      cases k' with
      | s j => exact (cs j n o' o h' h e.symm).elim
      | c m => exact sm'.inj (.c n) (.c m) o o' h h' e
theorem Fresh.back {w' : Wd} {S' : List O} {H' : Hp} {p : Addr} {o : O} (sm : Sim G w st σ H) (l : Le ⟨w.B, outP w st.S H, w.φ⟩ st.S.length w' S'.length) (sm' : Sim G w' ⟨[], S'⟩ [] H') (f : Fresh G w' ⟨[], S'⟩ [] H' p o) :
    Fresh G ⟨w'.B, w.P, w'.φ⟩ ⟨st.σ, S'⟩ σ H' p o := by
  have hp : outP w st.S H p = none := by rw [← f.P, l.P]
  obtain ⟨ho, h1, h2⟩ := f.at_
  refine ⟨⟨ho, h1, h2.sw rfl rfl⟩, f.B, ?_, fun k o' h e => ?_, f.lv⟩
  · show w.P p = none
    cases e : w.P p with
    | none => rfl
    | some u =>
      exfalso
      rw [outP_eq] at hp
      · rw [sm.P p u e] at hp; cases hp
      · cases q : w.B p with
        | none => rfl
        | some z => have := sm.BP p z q; rw [e] at this; cases this
      · intro n o' q z
        obtain ⟨_, _, _, _, c⟩ := sm.live (.c n) o' q
        have c : w.P (w.φ n) = none := c
        rw [z, e] at c; cases c
  · cases k with
    | s i =>
      obtain ⟨u, g1, g2, g3, g4⟩ := sm.live (.s i) o' h
      have e : adr w.φ σ (.s i) = p := e
      rw [← e, outP_eq g3 fun n o2 q z => ?_] at hp
      · rw [g1] at hp; cases hp
      · have := sm.inj (.c n) (.s i) o2 o' q h z
        cases this
    | c n => exact f.ne (.c n) o' h e

/-- a def's promise -/
def spD (G : Sig) (call : List D → List O → RF) (fr : Bool) (np : Nat) : Sp := fun vs H Q E => vs.length = np ∧ ∃ (w : Wd) (S : List O) (ds : List D), Sim G w ⟨[], S⟩ [] H ∧ Reps G w S.length ds vs ∧ (match call ds S with
  | .ok d S' => ∀ (w' : Wd) (H' : Hp) (v : V), Le w S.length w' S'.length → Sim G w' ⟨[], S'⟩ [] H' → (if fr = true then ∃ p o, v = .ref p ∧ d.toO = some o ∧ o.frz = some d ∧ Fresh G w' ⟨[], S'⟩ [] H' p o else Rep G w' S'.length d v) → Q v H'
  | .exc c d S' => ∀ (w' : Wd) (H' : Hp) (dx : Addr) (v : V), Le w S.length w' S'.length → Sim G w' ⟨[], S'⟩ [] H' → H' dx = some (.xd [("value", v)]) → Rep G w' S'.length d v → E (.ref (G.cl c)) (some dx) H'
  | .bad => False)

/-- the promise, asked from a body -/
theorem sp_of {call : List D → List O → RF} {fr : Bool} {np : Nat} {ds : List D} {vs : List V} {Q : VK} (sm : Sim G w st σ H) (rps : Reps G w st.S.length ds vs) (hl : ds.length = np)
    (a : Aft G W σ w st.S.length (toR st.σ (call ds st.S)) K)
    (k : ∀ d S' w' H' v, Sim G w' ⟨st.σ, S'⟩ σ H' → (if fr = true then ∃ p o, v = .ref p ∧ d.toO = some o ∧ o.frz = some d ∧ Fresh G w' ⟨st.σ, S'⟩ σ H' p o else Rep G w' S'.length d v) → K d w' ⟨st.σ, S'⟩ H' → Q v H') :
    spD G call fr np vs H Q (WE W σ) := by
  refine ⟨by rw [← rps.length]; exact hl, _, st.S, ds, sm.callee, rps.sw rfl rfl, ?_⟩
  cases e : call ds st.S with
  | ok d S' =>
    rw [e] at a
    intro w' H' v l s' r
    obtain ⟨l', s''⟩ := sm.back l s'
    refine k d S' _ H' v s'' ?_ (a _ H' l' s'')
    cases fr with
    | true =>
      rw [if_pos rfl] at r ⊢
      obtain ⟨p, o, e1, e2, e3, f⟩ := r
      exact ⟨p, o, e1, e2, e3, f.back sm l s'⟩
    | false =>
      rw [if_neg (by decide)] at r ⊢
      exact r.sw rfl rfl
  | exc c d S' =>
    rw [e] at a
    intro w' H' dx v l s' hx r
    obtain ⟨l', s''⟩ := sm.back l s'
    exact a _ H' dx v l' s'' hx (r.sw rfl rfl)
  | bad => rw [e] at a; exact a.elim

def plainE (e : Expr) : Bool := match e with | .Starred _ _ => false | _ => true
theorem star1 {e : Expr} {es : List Expr} {env : Env} (h : plainE e = true) : starEach (e :: es) env = (false, eval e env) :: starEach es env := by
  cases e <;> first | rfl | cases h
theorem starAny {pos : Pos} {env : Env} : ∀ {es : List Expr}, es.all plainE = true → (backTo pos (starEach es env)).any (·.1) = false
  | [], _ => rfl
  | e :: es, h => by
    rw [List.all_cons, Bool.and_eq_true] at h
    rw [star1 h.1]
    show (false || (backTo pos (starEach es env)).any (·.1)) = false
    rw [starAny h.2]; rfl
/-- a def of the text, as it is called -/
structure DefOk (X : Cx) (G : Sig) (k : Nat) (f : Nat) (x : Str) (call : List D → List O → RF) (fr : Bool) (np : Nat) (ps : List Str) (fd : FuncData) : Prop where
  mg : X.mg x = some (.ref (G.fa f))
  kp : PySem.W.keepIn X.K (.ref (G.fa f)) = true
  bd : Binds X.K fd ps []
  ok : FnOk X.prog X.w X.K X.mg X.base (L2.CX X.prog X.w) k (G.fa f) fd ps (spD G call fr np)
abbrev callR (call : List D → List O → RF) (rs : Stt → R (List D)) : Stt → R D := fun st => (rs st).bnd fun ds st => toR st.σ (call ds st.S)
theorem call_args {k f np : Nat} {x : Str} {call : List D → List O → RF} {fr : Bool} {ps : List Str} {fd : FuncData} {ds : List D} {vs : List V} {us : List Value} (F : DefOk X G k f x call fr np ps fd) (hr : Room k X.A) (tk : Takes X W)
    (I : Inv X pins σ H s) (sm : Sim G w st σ H) (r : Vals vs us) (rps : Reps G w st.S.length ds vs) (hl : ds.length = np) (a : Aft G W σ w st.S.length (toR st.σ (call ds st.S)) K) {Q : VK}
    (kk : ∀ d w' st' H' v, Sim G w' st' σ H' → (if fr = true then ∃ p o, v = .ref p ∧ d.toO = some o ∧ o.frz = some d ∧ Fresh G w' st' σ H' p o else Rep G w' st'.S.length d v) → K d w' st' H' → Q v H') :
    wpAny (model X.prog X.w) X.A (PySem.call (.ref (G.fa f)) us) (EP X pins σ Q) X.xe s :=
  run_fnS (E := WE W) F.ok hr F.bd (passAt tk σ) I r (sp_of sm rps hl a fun d S' w' H' v sm' q kd => kk d w' _ H' v sm' q kd)
theorem call_run {k f np : Nat} {x : Str} {p : Pos} {call : List D → List O → RF} {fr : Bool} {ps : List Str} {fd : FuncData} {e : Expr} {es : List Expr} {rs : Stt → R (List D)} (F : DefOk X G k f x call fr np ps fd) (hr : Room k X.A) (hg : Gl X x) (hd : (x == ("__debug__" : Str)) = false) (tk : Takes X W)
    (ha : PA X (e :: es) (tA' G W rs)) (hp : (e :: es).all plainE = true) (hl : ∀ st ds st', rs st = .ok ds st' → ds.length = np) (I : Inv X pins σ H s) (sm : Sim G w st σ H) (a : Aft G W σ w st.S.length (callR call rs st) K) {Q : VK}
    (kk : ∀ d w' st' H' v, Sim G w' st' σ H' → (if fr = true then ∃ p o, v = .ref p ∧ d.toO = some o ∧ o.frz = some d ∧ Fresh G w' st' σ H' p o else Rep G w' st'.S.length d v) → K d w' st' H' → Q v H') :
    wpAny (model X.prog X.w) X.A (eval (.Call (.Name x p) (e :: es) [] pos) X.env) (EP X pins σ Q) X.xe s := by
  refine wpAny_Call_Name_kw (ld_glob I hg F.mg ?_ hd)
  rw [List.all_cons, Bool.and_eq_true] at hp
  refine PySem.W.callWith_K (h₀ := X.base) I.ok.mod.kin F.kp (thn (goA ha pos I sm a.bnd.eq) fun us s1 h1 => ?_) (star1 hp.1) (starAny hp.2)
  obtain ⟨vs, H1, I1, r, ds, w1, st1, s1', rps, eq, l, k1⟩ := h1
  exact ⟨I1.kIn, call_args F hr tk I1 s1' r rps (hl _ _ _ eq) k1 kk⟩
theorem call_run0 {k f : Nat} {x : Str} {p : Pos} {call : List D → List O → RF} {fr : Bool} {ps : List Str} {fd : FuncData} (F : DefOk X G k f x call fr 0 ps fd) (hr : Room k X.A) (hg : Gl X x) (hd : (x == ("__debug__" : Str)) = false) (tk : Takes X W)
    (I : Inv X pins σ H s) (sm : Sim G w st σ H) (a : Aft G W σ w st.S.length (callR call (fun st => .ok [] st) st) K) {Q : VK}
    (kk : ∀ d w' st' H' v, Sim G w' st' σ H' → (if fr = true then ∃ p o, v = .ref p ∧ d.toO = some o ∧ o.frz = some d ∧ Fresh G w' st' σ H' p o else Rep G w' st'.S.length d v) → K d w' st' H' → Q v H') :
    wpAny (model X.prog X.w) X.A (eval (.Call (.Name x p) [] [] pos) X.env) (EP X pins σ Q) X.xe s := by
  refine wpAny_Call_Name_kw (ld_glob I hg F.mg ?_ hd)
  exact PySem.W.callWith_K0 I.kIn F.kp (call_args (us := []) F hr tk I sm .nil .nil rfl a kk)
/-- the end of a call as a value, as a new object -/
theorem call_v {fr : Bool} {d : D} {w' : Wd} {st' : Stt} {H' : Hp} {v : V} (sm : Sim G w' st' σ H') (q : if fr = true then ∃ p o, v = .ref p ∧ d.toO = some o ∧ o.frz = some d ∧ Fresh G w' st' σ H' p o else Rep G w' st'.S.length d v)
    (a : Aft G W σ w' st'.S.length (.ok d st') K) : EQ G σ K v H' := by
  cases fr with
  | false =>
    rw [if_neg (by decide)] at q
    exact ⟨d, w', st', sm, q, a.ok sm⟩
  | true =>
    rw [if_pos rfl] at q
    obtain ⟨p, o, rfl, e1, e2, f⟩ := q
    obtain ⟨w2, l, s2, rp⟩ := f.frz sm e2
    exact ⟨d, w2, st', s2, rp, a w2 H' l s2⟩
/-- keep the answer open -/
theorem Aft.keep {α : Type} {N : Nat} {r : R α} {K : α → Wd → Stt → Hp → Prop} (h : Aft G W σ w N r K) : Aft G W σ w N r fun a w1 st1 _ => Aft G W σ w1 st1.S.length (.ok a st1) K := by
  cases r with
  | ok a st1 => exact fun w1 H1 l s w2 H2 l2 s2 => h w2 H2 (l.trans l2) s2
  | exc c d st1 => exact h
  | bad => exact h
theorem c_call {k f np : Nat} {x : Str} {p : Pos} {call : List D → List O → RF} {fr : Bool} {ps : List Str} {fd : FuncData} {e : Expr} {es : List Expr} {rs : Stt → R (List D)} (F : DefOk X G k f x call fr np ps fd) (hr : Room k X.A) (hg : Gl X x) (hd : (x == ("__debug__" : Str)) = false) (tk : Takes X W)
    (ha : PA X (e :: es) (tA' G W rs)) (hp : (e :: es).all plainE = true) (hl : ∀ st ds st', rs st = .ok ds st' → ds.length = np) : PE X (.Call (.Name x p) (e :: es) [] pos) (tE G W (callR call rs)) :=
  mkE fun pins s σ H w st K I sm a => call_run F hr hg hd tk ha hp hl I sm a.keep fun d w' st' H' v sm' q kd => call_v sm' q kd
theorem c_call0 {k f : Nat} {x : Str} {p : Pos} {call : List D → List O → RF} {fr : Bool} {ps : List Str} {fd : FuncData} (F : DefOk X G k f x call fr 0 ps fd) (hr : Room k X.A) (hg : Gl X x) (hd : (x == ("__debug__" : Str)) = false) (tk : Takes X W) :
    PE X (.Call (.Name x p) [] [] pos) (tE G W (callR call fun st => .ok [] st)) :=
  mkE fun pins s σ H w st K I sm a => call_run0 F hr hg hd tk I sm a.keep fun d w' st' H' v sm' q kd => call_v sm' q kd
theorem c_callO {k f np : Nat} {x : Str} {p : Pos} {call : List D → List O → RF} {ps : List Str} {fd : FuncData} {e : Expr} {es : List Expr} {rs : Stt → R (List D)} (F : DefOk X G k f x call true np ps fd) (hr : Room k X.A) (hg : Gl X x) (hd : (x == ("__debug__" : Str)) = false) (tk : Takes X W)
    (ha : PA X (e :: es) (tA' G W rs)) (hp : (e :: es).all plainE = true) (hl : ∀ st ds st', rs st = .ok ds st' → ds.length = np) : PE X (.Call (.Name x p) (e :: es) [] pos) (tO G W (callR call rs)) :=
  mkO fun pins s σ H w st K I sm a => call_run F hr hg hd tk ha hp hl I sm a.keep fun d w' st' H' v sm' q kd => by
    rw [if_pos rfl] at q
    obtain ⟨p, o, rfl, e1, e2, f⟩ := q
    exact ⟨d, w', st', p, o, rfl, e1, e2, sm', f, kd.ok sm'⟩
theorem c_callO0 {k f : Nat} {x : Str} {p : Pos} {call : List D → List O → RF} {ps : List Str} {fd : FuncData} (F : DefOk X G k f x call true 0 ps fd) (hr : Room k X.A) (hg : Gl X x) (hd : (x == ("__debug__" : Str)) = false) (tk : Takes X W) :
    PE X (.Call (.Name x p) [] [] pos) (tO G W (callR call fun st => .ok [] st)) :=
  mkO fun pins s σ H w st K I sm a => call_run0 F hr hg hd tk I sm a.keep fun d w' st' H' v sm' q kd => by
    rw [if_pos rfl] at q
    obtain ⟨p, o, rfl, e1, e2, f⟩ := q
    exact ⟨d, w', st', p, o, rfl, e1, e2, sm', f, kd.ok sm'⟩

/-! ### calls by keywords alone -/
def pick {α : Type} (xs : List α) (p : List Nat) : List α := p.filterMap fun i => xs[i]?
theorem pick_nil {α : Type} (xs : List α) : pick xs [] = [] := rfl
theorem pick_cons {α : Type} (xs : List α) (i : Nat) (p : List Nat) : pick xs (i :: p) = (match xs[i]? with | some x => x :: pick xs p | none => pick xs p) := by
  unfold pick
  rw [List.filterMap_cons]
  cases xs[i]? <;> rfl
theorem vals_pick {vs : List V} {us : List Value} (r : Vals vs us) : ∀ p : List Nat, Vals (pick vs p) (pick us p)
  | [] => .nil
  | i :: p => by
    rw [pick_cons, pick_cons]
    cases e : vs[i]? with
    | none => rw [r.none_of e]; exact vals_pick r p
    | some v =>
      obtain ⟨u, e2, rv⟩ := r.get e
      rw [e2]
      exact .cons rv (vals_pick r p)
theorem Reps.pick {N : Nat} {ds : List D} {vs : List V} (r : Reps G w N ds vs) : ∀ p : List Nat, Reps G w N (Tp.pick ds p) (Tp.pick vs p)
  | [] => .nil
  | i :: p => by
    rw [pick_cons, pick_cons]
    cases e : ds[i]? with
    | none =>
      have : vs[i]? = none := by
        rw [List.getElem?_eq_none_iff] at e ⊢
        rw [← r.length]; exact e
      rw [this]; exact Reps.pick r p
    | some d =>
      obtain ⟨v, e2, rv⟩ := r.get e
      rw [e2]
      exact .cons rv (Reps.pick r p)
theorem kwNames {pos : Pos} {env : Env} : ∀ {kws : List Keyword} {ks : List Str}, kws.map (·.arg) = ks.map some → (backToKw pos (keywordEach kws env)).filterMap (·.1) = ks ∧ (backToKw pos (keywordEach kws env)).all (·.1.isSome) = true ∧ (backToKw pos (keywordEach kws env)).any (·.1.isNone) = false
  | [], [], _ => ⟨rfl, rfl, rfl⟩
  | [], _ :: _, h => by simp at h
  | _ :: _, [], h => by simp at h
  | ⟨nm, e, p⟩ :: kws, k :: ks, h => by
    simp only [List.map_cons, List.cons.injEq] at h
    obtain ⟨h1, h2⟩ := h
    subst h1
    obtain ⟨a, b, c⟩ := kwNames (pos := pos) (env := env) h2
    have e0 : backToKw pos (keywordEach (⟨some k, e, p⟩ :: kws) env) = (some k, do let v ← eval e env; standAt pos; pure v) :: backToKw pos (keywordEach kws env) := rfl
    rw [e0]
    refine ⟨?_, ?_, ?_⟩
    · rw [List.filterMap_cons]
      show k :: _ = _
      rw [a]
    · rw [List.all_cons, b]; rfl
    · rw [List.any_cons, c]; rfl
theorem k_nil : PK X [] (tA' G W fun st => .ok [] st) := ⟨fun pos pins s σ H Q I ⟨w, st, sm, a⟩ => wpAny_evalAll_nil ⟨[], H, I, .nil, a.ok sm [] .nil⟩⟩
theorem k_cons {nm : Option Str} {kpos : Pos} {kws : List Keyword} {rs : Stt → R (List D)} (ha : PE X pa (tE G W ra)) (hr : PK X kws (tA' G W rs)) : PK X (⟨nm, pa, kpos⟩ :: kws) (tA' G W (consR ra rs)) := by
  refine ⟨fun pos pins s σ H Q I ⟨w, st, sm, a⟩ => ?_⟩
  show wpAny _ _ (evalAll ((do let v ← eval pa X.env; standAt pos; pure v) :: (backToKw pos (keywordEach kws X.env)).map (·.2))) _ _ s
  refine wpAny_evalAll_cons (wpAny_bind (thn (goE ha I sm a.bnd) fun u s1 ⟨x, H1, I1, r1, d, w1, st1, s1', rp, l, k⟩ => wpAny_bind (wpAny_standAt (wpAny_pure ?_))))
  refine thn (hr.run pos pins s1 σ H1 (AQ G σ fun ds w2 st2 H2 => Le w1 st1.S.length w2 st2.S.length ∧ Aft G W σ w2 st2.S.length (.ok (d :: ds) st2) fun b w2 st2 H2 => ∀ vs, Reps G w2 st2.S.length b vs → Q vs H2) I1 ⟨w1, st1, s1', k.bnd.imp fun ds w2 st2 H2 _ s2 k2 vs rps => ⟨ds, w2, st2, s2, rps, k2⟩⟩) fun us s2 ⟨xs, H2, I2, r2, ds, w2, st2, s2', rps, l2, k2⟩ => ?_
  exact ⟨x :: xs, H2, I2, .cons r1 r2, k2.ok s2' _ (.cons (rp.mono l2) rps)⟩
/-- how such a call binds -/
def KwB (K : PySem.W.Frag) (fd : FuncData) (ps ks : List Str) (p : List Nat) : Prop := ∀ (s : Shared) (ws : List Value), K.In s.heap → ws.length = ks.length → BindsTo s fd ⟨[], ks.zip ws⟩ (ps.zip (pick ws p))
theorem c_callK {k f np : Nat} {x : Str} {p0 : Pos} {call : List D → List O → RF} {fr : Bool} {ps ks : List Str} {p : List Nat} {fd : FuncData} {kws : List Keyword} {rs : Stt → R (List D)} (F : DefOk X G k f x call fr np ps fd) (hk : KwB X.K fd ps ks p) (hr : Room k X.A) (hg : Gl X x) (hd : (x == ("__debug__" : Str)) = false) (tk : Takes X W)
    (ha : PK X kws (tA' G W rs)) (hn : kws.map (·.arg) = ks.map some) (hl : ∀ st ds st', rs st = .ok ds st' → ds.length = ks.length ∧ (Tp.pick ds p).length = np) :
    PE X (.Call (.Name x p0) [] kws pos) (tE G W fun st => (rs st).bnd fun ds st => toR st.σ (call (Tp.pick ds p) st.S)) := by
  refine mkE fun pins s σ H w st K I sm a => ?_
  refine wpAny_Call_Name_kw (ld_glob I hg F.mg ?_ hd)
  obtain ⟨n1, n2, n3⟩ := kwNames (pos := pos) (env := X.env) hn
  refine PySem.W.callWith_KW0 (h₀ := X.base) I.ok.mod.kin F.kp n2 (thn (ha.run pos pins s σ H (AQ G σ fun ds w1 st1 H1 => rs st = .ok ds st1 ∧ Le w st.S.length w1 st1.S.length ∧ Aft G W σ w1 st1.S.length (toR st1.σ (call (Tp.pick ds p) st1.S)) fun d w' st' H' => Aft G W σ w' st'.S.length (.ok d st') K) I ⟨w, st, sm, a.keep.bnd.eq.imp fun d w1 st1 H1 _ s1 k vs rp => ⟨d, w1, st1, s1, rp, k⟩⟩) fun ws s1 h1 => ?_) (by rw [n3]; rfl)
  obtain ⟨vs, H1, I1, r, ds, w1, st1, s1', rps, eq, l, k1⟩ := h1
  obtain ⟨z1, z2⟩ := hl _ _ _ eq
  refine ⟨I1.kIn, ?_⟩
  rw [n1]
  have zw : ws.length = ks.length := by rw [← r.length, ← rps.length]; exact z1
  have r2 := vals_pick r p
  have sp : spD G call fr np (Tp.pick vs p) H1 (EQ G σ K) (WE W σ) := sp_of s1' (rps.pick p) z2 k1 fun d S' w' H' v sm' q kd => call_v sm' q kd
  refine wpAny_call (codeAny_mono (F.ok.run X.A X.stack s1 H1 ⟨[], ks.zip ws⟩ (Tp.pick ws p) (Tp.pick vs p) _ _ hr I1.env0 (hk s1 ws I1.kIn zw) r2 sp) fun r s' hq => ?_)
  cases r with
  | error e => exact passAt tk σ pins H1 s1 e s' I1 hq
  | ok fl =>
    cases fl with
    | ret u => exact I1.after hq
    | next => exact False.elim hq
    | brk => exact False.elim hq
    | cont => exact False.elim hq

/-! ### built-ins -/
theorem bools_vals {N : Nat} : ∀ {ds : List D} {bs : List Bool} {vs : List V}, boolsOf ds = some bs → Reps G w N ds vs → vs = bs.map V.bl
  | [], bs, vs, h, r => by cases r; cases h; rfl
  | d :: ds, bs, vs, h, r => by
    cases r with
    | cons r1 r2 =>
      cases d <;> simp only [boolsOf, reduceCtorEq] at h
      obtain ⟨bs', h1, h2⟩ := Option.map_eq_some_iff.mp h
      subst h2
      cases r1
      rw [bools_vals h1 r2]; rfl
theorem len_vw {z : Vw} {v : V} {N n : Nat} (h : VwOk G w N H z v) (e : lenV z = some n) : LenV G.K v H n := by
  cases h with
  | lst h hl r => cases e; exact .inl ⟨_, h, r.length⟩
  | tup h hl r => cases e; exact .inr ⟨_, h, r.length⟩
  | str z =>
    simp only [lenV] at e
    split at e <;> cases e
    rename_i hz
    exact ⟨by rw [strV_len]; exact lim_le hz, by rw [strV_len]⟩
  | no => cases e
theorem intL_tl (i : Int) : TL.tl (Str.ofString (toString i)) = intL i := by
  unfold intL
  cases i with
  | ofNat n =>
    rw [if_neg (by show ¬ ((n : Int) < 0); omega)]
    exact TL.tl_num n
  | negSucc m =>
    rw [if_pos (Int.negSucc_lt_zero m)]
    have e : toString (Int.negSucc m) = "-" ++ toString (((m + 1 : Nat)) : Int) := rfl
    rw [e, TL.tl_ofString, String.toList_append, List.map_append]
    have := TL.tl_num (m + 1)
    rw [TL.tl_ofString] at this
    rw [this]
    rfl
theorem readI_text {l : List Nat} {n : Int} (h : readI l = some n) : PySem.intText? (⟨l.toArray⟩ : Str) = some n ∧ (⟨l.toArray⟩ : Str).length ≤ 640 := by
  have dg : ∀ {r : List Nat}, digs r = true → NumText.AllDigits r := fun {r} q c hc => of_decide_eq_true (List.all_eq_true.mp q c hc)
  unfold readI at h
  split at h
  · split at h <;> cases h
    rename_i r q
    obtain ⟨q1, q2, q3⟩ := q
    refine ⟨?_, by rw [strV_len, List.length_cons]; omega⟩
    exact intText_neg (cs := r) rfl (dg q1) q2 (by rw [strV_len, List.length_cons]; omega)
  · split at h <;> cases h
    rename_i q
    obtain ⟨q1, q2, q3⟩ := q
    refine ⟨?_, by rw [strV_len]; omega⟩
    exact intText_digits (dg q1) q2 (by rw [strV_len]; omega)
def biVal : Bi → Value
  | .len => .builtin "len"
  | .abs => .builtin "abs"
  | .int => .type "int"
  | .str => .type "str"
  | .max2 => .builtin "max"
  | .min2 => .builtin "min"
  | .all => .builtin "all"
  | .gcd => .builtin "math.gcd"
def biName : Bi → Str
  | .len => "len"
  | .abs => "abs"
  | .int => "int"
  | .str => "str"
  | .max2 => "max"
  | .min2 => "min"
  | .all => "all"
  | .gcd => "gcd"
theorem repTl {N : Nat} (i : Int) : Rep G w N (.str (intL i)) (.str (Str.ofString (toString i))) := by
  have e : (Str.ofString (toString i)) = ⟨(intL i).toArray⟩ := TL.ext_tl (by rw [intL_tl])
  rw [e]
  exact .str _
theorem bi_call {b : Bi} {ds : List D} {g : D} {vs : List V} {us : List Value} (hK : X.K = G.K) (hc : X.calm = true) (I : Inv X pins σ H s) (sm : Sim G w st σ H) (r : Vals vs us) (rps : Reps G w st.S.length ds vs) (hb : biD st.S b ds = some g) (k : K g w st H) :
    wpAny (model X.prog X.w) X.A (call (biVal b) us) (EP X pins σ (EQ G σ K)) X.xe s := by
  have fi : ∀ i : Int, g = .int i → EQ G σ K (.int i) H := fun i e => ⟨.int i, w, st, sm, .int i, e ▸ k⟩
  unfold biD at hb
  split at hb
  · obtain ⟨n, h1, h2⟩ := Option.map_eq_some_iff.mp hb
    cases rps with
    | cons r1 r2 =>
      cases r2
      exact call_len pins s σ H _ us _ I r ⟨_, n, rfl, by rw [hK]; exact len_vw (sm.vw r1) h1, fi _ h2.symm⟩
  · cases hb
    cases rps with
    | cons r1 r2 => cases r2; cases r1; exact call_abs pins s σ H _ us _ I r ⟨_, rfl, fi _ rfl⟩
  · cases hb
    cases rps with
    | cons r1 r2 => cases r2; cases r1; exact call_int1 pins s σ H _ us _ I r (.inl ⟨_, rfl, fi _ rfl⟩)
  · cases hb
    cases rps with
    | cons r1 r2 => cases r2; cases r1; exact call_int1 pins s σ H _ us _ I r (.inr ⟨_, rfl, fi _ rfl⟩)
  · obtain ⟨n, h1, h2⟩ := Option.map_eq_some_iff.mp hb
    cases rps with
    | cons r1 r2 =>
      cases r2; cases r1
      obtain ⟨q1, q2⟩ := readI_text h1
      exact call_int_str pins s σ H _ us _ I r ⟨_, n, rfl, q1, q2, fi _ h2.symm⟩
  · split at hb <;> cases hb
    rename_i hz
    cases rps with
    | cons r1 r2 =>
      cases r2; cases r1
      exact call_str_int pins s σ H _ us _ I r ⟨_, rfl, by unfold bits at hz; omega, _, w, st, sm, repTl _, k⟩
  · cases hb
    cases rps with
    | cons r1 r2 =>
      cases r2 with
      | cons r2 r3 => cases r3; cases r1; cases r2; exact call_max2 hc pins s σ H _ us _ I r ⟨_, _, rfl, fi _ rfl⟩
  · cases hb
    cases rps with
    | cons r1 r2 =>
      cases r2 with
      | cons r2 r3 => cases r3; cases r1; cases r2; exact call_min2 hc pins s σ H _ us _ I r ⟨_, _, rfl, fi _ rfl⟩
  · obtain ⟨bs, h1, h2⟩ := Option.map_eq_some_iff.mp hb
    cases rps with
    | cons r1 r2 =>
      cases r2
      cases r1 with
      | lst h hl rr =>
        refine cr_all hc pins s σ H _ us _ I r ⟨_, bs, rfl, ?_, .bl _, w, st, sm, .bl _, by rw [← h2] at k; exact k⟩
        rw [← bools_vals h1 rr]
        exact .inl (.inl (sm.B _ _ h))
  · cases hb
    cases rps with
    | cons r1 r2 =>
      cases r2 with
      | cons r2 r3 => cases r3; cases r1; cases r2; exact cr_gcd pins s σ H _ us _ I r ⟨_, _, rfl, fi _ (by simp [Int.gcd])⟩
  · cases hb
/-- how a built-in's name is held -/
def BiOk (X : Cx) (b : Bi) : Prop := match b with
  | .gcd => X.mg "gcd" = some (.builtin "math.gcd")
  | b => X.mg (biName b) = none
theorem c_blt {b : Bi} {p : Pos} {e : Expr} {es : List Expr} {rs : Stt → R (List D)} (hK : X.K = G.K) (hc : X.calm = true) (hg : Gl X (biName b)) (hm : BiOk X b) (ha : PA X (e :: es) (tA' G W rs)) (hp : (e :: es).all plainE = true) :
    PE X (.Call (.Name (biName b) p) (e :: es) [] pos) (tE G W fun st => (rs st).bnd fun ds st => optR (biD st.S b ds) st) := by
  rw [List.all_cons, Bool.and_eq_true] at hp
  refine mkE fun pins s σ H w st K I sm a => ?_
  have main : ∀ us s1, AP X pins σ (AQ G σ fun ds w1 st1 _ => Le w st.S.length w1 st1.S.length ∧ Aft G W σ w1 st1.S.length (optR (biD st1.S b ds) st1) K) us s1 → wpAny (model X.prog X.w) X.A (call (biVal b) us) (EP X pins σ (EQ G σ K)) X.xe s1 := by
    rintro us s1 ⟨vs, H1, I1, r, ds, w1, st1, s1', rps, l, k⟩
    obtain ⟨g, hg, k⟩ := k.opt s1'
    exact bi_call hK hc I1 s1' r rps hg k
  have args := goA ha pos I sm a.bnd
  refine wpAny_Call_Name_kw ?_
  cases b
  case gcd => exact ld_glob I hg hm (PyProof.Rows.callWith_builtin1 (thn args main) (star1 hp.1) (starAny hp.2)) (by decide)
  case int => exact ld_blt I hg hm (by decide +kernel) (PyProof.Rows.callWith_type1 (thn args main) (star1 hp.1) (starAny hp.2)) (by decide) (by decide)
  case str => exact ld_blt I hg hm (by decide +kernel) (PyProof.Rows.callWith_type1 (thn args main) (star1 hp.1) (starAny hp.2)) (by decide) (by decide)
  all_goals exact ld_blt I hg hm (by decide +kernel) (PyProof.Rows.callWith_builtin1 (thn args main) (star1 hp.1) (starAny hp.2)) (by decide) (by decide)

end
end Tp

/-! Tp: methods of texts, isinstance, f-strings, a written dict. -/
namespace Tp
open PySem PySem.Spec PyProof.Rows L2
section
variable {G : Sig} {W : WX} {X : Cx} {py pa pb : Expr} {r ra rb : Stt → R D} {pos : Pos}
variable {pins : List (Addr × Obj)} {s : Shared} {σ : L2.St} {H : Hp} {w : Wd} {st : Stt} {K : D → Wd → Stt → Hp → Prop}

/-! ### methods of texts -/
def miName : Mi → Str
  | .startswith => "startswith"
  | .partition => "partition"
theorem startsL_eq (s p : List Nat) : Txt.startswith ⟨s.toArray⟩ ⟨p.toArray⟩ = startsL s p := by
  unfold Txt.startswith startsL Builtin.Str.subAt
  rw [strV_len, strV_len]
  have e : ((⟨s.toArray⟩ : Str).cps.extract 0 (0 + p.length) == (⟨p.toArray⟩ : Str).cps) = (s.take p.length == p) := by
    rw [Bool.eq_iff_iff, beq_iff_eq, beq_iff_eq]
    show s.toArray.extract 0 (0 + p.length) = p.toArray ↔ _
    rw [List.extract_toArray]
    simp
  rw [e]
  cases h : s.take p.length == p with
  | false => simp
  | true =>
    rw [beq_iff_eq] at h
    have := congrArg List.length h
    rw [List.length_take] at this
    simp only [Bool.and_true, decide_eq_true_eq]
    omega
theorem partL_eq (c : Nat) : ∀ (s acc : List Nat), (match TL.par [c] acc s with | some (a, b) => (a, [c], b) | none => (acc ++ s, [], [])) = (acc ++ (partL c s).1, (partL c s).2.1, (partL c s).2.2)
  | [], acc => by simp [TL.par, partL]
  | d :: r, acc => by
    by_cases h : d = c
    · subst h
      rw [TL.par_hit (by simp [TL.pre])]
      simp [partL]
    · rw [TL.par_miss (by simp [TL.pre, h])]
      have ih := partL_eq c r (acc ++ [d])
      simp only [partL, if_neg h]
      rw [List.append_assoc, List.append_assoc] at ih
      exact ih
theorem partition_eq (s : List Nat) (c : Nat) : Txt.partition ⟨s.toArray⟩ ⟨#[c]⟩ = (⟨(partL c s).1.toArray⟩, ⟨(partL c s).2.1.toArray⟩, ⟨(partL c s).2.2.toArray⟩) := by
  rw [TL.partition_par _ _ (by simp [TL.tl])]
  have h := partL_eq c s []
  have e : TL.tl (⟨#[c]⟩ : Str) = [c] := rfl
  have e2 : TL.tl (⟨s.toArray⟩ : Str) = s := rfl
  rw [e, e2]
  cases q : TL.par [c] [] s with
  | none =>
    rw [q] at h
    simp only [List.nil_append, Prod.mk.injEq] at h
    obtain ⟨h1, h2, h3⟩ := h
    rw [← h2, ← h3, ← h1]
    rfl
  | some ab =>
    obtain ⟨a, b⟩ := ab
    rw [q] at h
    simp only [List.nil_append, Prod.mk.injEq] at h
    obtain ⟨h1, h2, h3⟩ := h
    rw [← h2, ← h3, ← h1]
def miId : Mi → String
  | .startswith => "str.startswith"
  | .partition => "str.partition"
theorem mi_call {m : Mi} {z : List Nat} {ds : List D} {g : D} {v : Value} {vs : List V} {us : List Value} (I : Inv X pins σ H s) (rx : RelV (strV z) v) (sm : Sim G w st σ H) (r : Vals vs us) (rps : Reps G w st.S.length ds vs) (hb : miD m z ds = some g)
    (k : Aft G W σ w st.S.length (.ok g st) K) : wpAny (model X.prog X.w) X.A (call (.builtin (miId m)) (v :: us)) (EP X pins σ (EQ G σ K)) X.xe s := by
  unfold miD at hb
  split at hb
  · cases hb
    cases rps with
    | cons r1 r2 =>
      cases r2; cases r1
      exact mt_startswith pins s σ H _ _ v us _ I rx r ⟨_, _, rfl, rfl, by rw [startsL_eq]; exact ⟨_, w, st, sm, .bl _, k.ok sm⟩⟩
  · split at hb <;> cases hb
    rename_i c hz
    cases rps with
    | cons r1 r2 =>
      cases r2; cases r1
      refine mt_partition pins s σ H _ _ v us _ I rx r ⟨_, _, rfl, rfl, rfl, by rw [strV_len]; exact lim_le hz.2, fun p hp => ?_⟩
      have e : ∀ c : Nat, (⟨[c].toArray⟩ : Str) = ⟨#[c]⟩ := fun _ => rfl
      rw [e, partition_eq]
      have l := le_put (N := st.S.length) (ho := .tup [strV (partL c z).1, strV (partL c z).2.1, strV (partL c z).2.2]) (sm.bnone hp)
      exact ⟨_, _, st, sm.newB hp, .tup (.inl (.inl put_at)) (by show 3 ≤ sizeLine; decide) (.cons (.str _) (.cons (.str _) (.cons (.str _) .nil))), k _ _ l (sm.newB hp)⟩
  · cases hb
theorem c_mth {m : Mi} {apos : Pos} {e : Expr} {es : List Expr} {rs : Stt → R (List D)} (ho : PE X pa (tE G W ra)) (ha : PA X (e :: es) (tA' G W rs)) (hp : (e :: es).all plainE = true) (hl : (e :: es).length < 30) (hbase : attributeBase pa (miName m) X.env (eval pa X.env) = eval pa X.env) (hline : (apos.endLine == pos.line) = true) :
    PE X (.Call (.Attribute pa (miName m) apos) (e :: es) [] pos) (tE G W fun st => (ra st).bnd fun x st => (match x with
    | .str z => (rs st).bnd fun ds st => optR (miD m z ds) st
    | _ => .bad)) := by
  refine mkE fun pins s σ H w st K I sm a => ?_
  have hall : ∀ {pos : Pos} {es : List Expr}, es.all plainE = true → (backTo pos (starEach es X.env)).all (fun x => !x.1) = true := fun {pos} {es} => by
    induction es with
    | nil => intro _; rfl
    | cons e es ih =>
      intro h
      rw [List.all_cons, Bool.and_eq_true] at h
      rw [star1 h.1]
      show (true && (backTo pos (starEach es X.env)).all (fun x => !x.1)) = true
      rw [ih h.2]; rfl
  have hp' := hp
  rw [List.all_cons, Bool.and_eq_true] at hp
  refine wpAny_Call_method_late hbase (by
    rw [hall hp']
    simp only [Bool.true_and]
    show (true && decide ((e :: es).length + 0 + 0 < 30)) = true
    simpa using hl) hline rfl (thn (goE ho I sm a.bnd) fun v s1 ⟨x, H1, I1, r1, d, w1, st1, s1', rp, l, k⟩ => ?_)
  split at k
  · rename_i z
    cases rp
    obtain ⟨t, rfl⟩ := id r1
    have args := goA ha pos I1 s1' k.bnd
    have fin : wpAny (model X.prog X.w) X.A (callWith pos (.builtin (miId m)) [.str ⟨z.toArray⟩ t] (backTo pos (starEach (e :: es) X.env)) []) (EP X pins σ (EQ G σ K)) X.xe s1 := by
      rw [star1 hp.1] at args ⊢
      refine Calls.callWith_builtin (by show (false || (backTo pos (starEach es X.env)).any (·.1)) = false; rw [starAny hp.2] <;> rfl) (Calls.evalArgs_plain ?_)
      refine thn args fun us s2 ⟨vs, H2, I2, r2, ds, w2, st2, s2', rps, l2, k2⟩ => ?_
      obtain ⟨g, hg, k2⟩ := k2.opt'
      exact mi_call I2 r1 s2' r2 rps hg k2
    cases m with
    | startswith => exact ⟨"str", _, PySem.F.plainAttrs_str, PySem.F.slot_str_startswith, PySem.F.type_str_startswith, typeIs_str _ _ _, (fun _ e => nomatch e), fin⟩
    | partition => exact ⟨"str", _, PySem.F.plainAttrs_str, PySem.F.slot_str_partition, PySem.F.type_str_partition, typeIs_str _ _ _, (fun _ e => nomatch e), fin⟩
  · exact k.elim
/-- a text without a sign -/
theorem replL_filter (c : Nat) : ∀ l : List Nat, PySem.StrLaws.replL [c] [] l = l.filter fun d => !decide (d = c)
  | [] => by rw [PySem.StrLaws.replL_nil]; rfl
  | d :: r => by
    by_cases h : d = c
    · subst h
      rw [PySem.StrLaws.replL_hit (by simp) (by simp)]
      simp only [List.length_cons, List.length_nil, List.drop_succ_cons, List.drop_zero, List.nil_append]
      rw [replL_filter d r]
      simp
    · rw [PySem.StrLaws.replL_miss (by simp [h]), replL_filter c r]
      simp [h]
theorem replace_eq (s : List Nat) (c : Nat) : Txt.replace ⟨s.toArray⟩ ⟨#[c]⟩ ⟨#[]⟩ = ⟨(s.filter fun d => !decide (d = c)).toArray⟩ := by
  apply TL.ext_tl
  show (Txt.replace ⟨s.toArray⟩ ⟨#[c]⟩ ⟨#[]⟩).cps.toList = _
  rw [PySem.StrLaws.replace_list (by show 1 ≤ (#[c] : Array Nat).size; simp)]
  exact replL_filter c s
theorem neB (c : Nat) : ((⟨#[c]⟩ : Str) == (⟨#[]⟩ : Str)) = false := beq_eq_false_iff_ne.mpr fun e => by
  have := congrArg (fun z : Str => z.cps.size) e
  simp at this
theorem c_rpl {i j k : Nat} {xi xj : Str} {z : Str} {j0 j1 : Nat} {p1 p2 c0 c1 q0 q1 apos : Pos} (hNi : X.N[i]? = some xi) (hvi : Vis X.env.scope xi) (hNj : X.N[j]? = some xj) (hvj : Vis X.env.scope xj)
    (hdi : (xi == ("__debug__" : Str)) = false) (hci : (xi == ("__classdict__" : Str)) = false) (hdj : (xj == ("__debug__" : Str)) = false) (hcj : (xj == ("__classdict__" : Str)) = false) (hz : z = ⟨#[]⟩) (hline : (apos.endLine == pos.line) = true) :
    PE X (.Call (.Attribute (.Name xi p1) "replace" apos) [.Subscript (.Name xj p2) (.UnaryOp .USub (.Constant (.int k) j0 c0) q1) q0, .Constant (.str z) j1 c1] [] pos) (tE G W fun st => optR (rplV i j k st) st) := by
  subst hz
  refine mkE fun pins s σ H w st K I sm a => ?_
  obtain ⟨g, hg, kk⟩ := a.opt sm
  unfold rplV at hg
  split at hg
  · rename_i sl tl ei ej
    split at hg
    · rename_i hl
      obtain ⟨c, hc, eg⟩ := Option.map_eq_some_iff.mp hg
      obtain ⟨vi, evi, ri⟩ := sm.val i _ ei
      obtain ⟨vj, evj, rj⟩ := sm.val j _ ej
      cases ri; cases rj
      refine PySem.Call_method2 rfl rfl hline (raw_name hNi hvi I evi (fun v r => ?_) hdi hci)
      obtain ⟨tx, rfl⟩ := r
      refine ⟨"str", _, F.plainAttrs_str, F.slot_str_replace, F.type_str_replace, typeIs_str _ _ _, (fun _ e => nomatch e), Calls.callWith_builtin rfl (Calls.evalArgs_plain (Calls.spliced_cons ?_))⟩
      refine Subscript_ (raw_name hNj hvj I evj (fun v r => ?_) hdj hcj)
      obtain ⟨ty, rfl⟩ := r
      refine UnaryOp_ (wpAny_Constant_int (neg_int ?_))
      obtain ⟨jj, h1, h2, h3, h4, h5⟩ := atI_get hc
      refine tail_any (typeIs_str _ _ _) slot_str_getitem.lookup (getItem_str (c := c) (by
        have e1 : decide (-(k : Int) < -(2 ^ 63 : Int)) = false := decide_eq_false (by omega)
        have e2 : decide (-(k : Int) ≥ 2 ^ 63) = false := decide_eq_false (by omega)
        rw [e1, e2] <;> rfl) (by rw [strV_len, h1]; exact (show (⟨tl.toArray⟩ : Str).cps[jj]? = some c by simpa using h2)) ?_) rfl
      refine Calls.spliced_cons (Calls.Constant_str (Calls.spliced_nil ?_))
      have zl : (⟨#[]⟩ : Str).length = 0 := rfl
      refine PySem.SC.replace (by show s.toks + 1 + 1 ≠ 0; omega) (by show s.toks + 1 + 1 + 1 ≠ 0; omega) (by show s.toks + 1 + 1 ≠ s.toks + 1 + 1 + 1; omega) (neB c) (by rw [strV_len, zl]; omega) fun t' k' => ?_
      rw [replace_eq]
      exact retE (v := strV _) (I.tok _) ⟨_, rfl⟩ sm (.str _) (eg ▸ kk)
    · cases hg
  · cases hg

/-! ### isinstance -/
def tyName : Ty → String
  | .str => "str"
  | .int => "int"
  | .bool => "bool"
  | .list => "list"
  | .tuple => "tuple"
def tnName : Tn → String
  | .non => "NoneType"
  | .bool => "bool"
  | .int => "int"
  | .str => "str"
  | .list => "list"
  | .tuple => "tuple"
theorem kit_sub (K : PySem.W.Frag) (n : Tn) (t : Ty) : PySem.W.kitOne K (.type (tnName n)) (.type (tyName t)) = some (subTy n t) := by
  cases n <;> cases t <;> exact kit_ty (by decide +kernel)
theorem tyX_vw {z : Vw} {v : V} {N : Nat} {n : Tn} (vw : VwOk G w N H z v) (h : tnV z = some n) : TyX G.K H v (.type (tnName n)) := by
  cases vw with
  | lst hq hl r =>
    cases h
    rcases hq with (hq | ⟨o, hq⟩) | ⟨o, its, m, hk, hc, _⟩
    · exact .base (.lst hq)
    · exact .base (.frz hq)
    · exact .kList hk hc
  | tup hq hl r =>
    cases h
    rcases hq with (hq | ⟨o, hq⟩) | ⟨o, its, m, hk, hc, _⟩
    · exact .base (.tup hq)
    · exact .fTuple hq
    · exact .kTuple hk hc
  | str z => cases h; exact .base (.str _)
  | no => cases h
theorem tyX_of {d : D} {v : V} {n : Tn} (sm : Sim G w st σ H) (rp : Rep G w st.S.length d v) (h : tnOf st.S d = some n) : TyX G.K H v (.type (tnName n)) := by
  cases rp with
  | non => cases h; exact .base .non
  | bl b => cases h; exact .base (.bl b)
  | int i => cases h; exact .base (.int i)
  | str z => cases h; exact .base (.str _)
  | tup hq hl r => exact tyX_vw (sm.vw (.tup hq hl r)) h
  | lst hq hl r => exact tyX_vw (sm.vw (.lst hq hl r)) h
  | ro hq hl r => exact tyX_vw (sm.vw (.ro hq hl r)) h
  | cell hn => exact tyX_vw (sm.vw (.cell hn)) h
  | fn n => cases h
theorem c_isi {t : Ty} {u : Str} {p p2 : Pos} (hK : X.K = G.K) (hg : Gl X "isinstance") (hm : X.mg "isinstance" = none) (hu : u = Str.ofString (tyName t)) (hgu : Gl X u) (hmu : X.mg u = none) (ha : PE X pa (tE G W ra)) (hp : plainE pa = true) :
    PE X (.Call (.Name "isinstance" p) [pa, .Name u p2] [] pos) (tE G W fun st => (ra st).bnd fun x st => optR ((tnOf st.S x).map fun n => .bl (subTy n t)) st) := by
  subst hu
  have hv : bootBuiltins (Str.ofString (tyName t)) = some (.type (tyName t)) := by cases t <;> decide +kernel
  have hn : (Str.ofString (tyName t)) ≠ ("__name__" : Str) := by cases t <;> decide
  have hd : ((Str.ofString (tyName t)) == ("__debug__" : Str)) = false := by cases t <;> decide
  have hty : PE X (.Name (Str.ofString (tyName t)) p2) (tC (.ty (tyName t))) := pe_bltn (v := .ty (tyName t)) hgu hmu hv rfl hn hd
  refine mkE fun pins s σ H w st K I sm a => ?_
  refine wpAny_Call_Name_kw (ld_blt I hg hm (u := .builtin "isinstance") (by decide +kernel) ?_ (by decide) (by decide))
  refine PyProof.Rows.callWith_builtin1 ?_ (star1 hp) (by rfl)
  rw [star1 hp]
  refine Calls.spliced_cons (thn (goE ha I sm a.bnd) fun u s1 ⟨x, H1, I1, r1, d, w1, st1, s1', rp, l, k⟩ => ?_)
  show wpAny _ _ (spliced ((false, eval (.Name (Str.ofString (tyName t)) p2) X.env) :: [])) _ _ s1
  refine Calls.spliced_cons (thn (hty.run pins s1 σ H1 (fun v H2 => v = .ty (tyName t) ∧ H2 = H1) I1 ⟨rfl, rfl⟩) fun u2 s2 ⟨x2, H2, I2, r2, e1, e2⟩ => ?_)
  subst e1 e2
  refine Calls.spliced_nil ?_
  obtain ⟨g, hg', k⟩ := k.opt s1'
  obtain ⟨n, h1, h2⟩ := Option.map_eq_some_iff.mp hg'
  refine call_isi pins s2 σ H2 [x, .ty (tyName t)] _ _ I2 (.cons r1 (.cons r2 .nil)) ⟨x, _, _, _, _, rfl, .ty _, by rw [hK]; exact tyX_of s1' rp h1, kit_sub _ n t, ?_⟩
  exact ⟨.bl (subTy n t), w1, st1, s1', .bl _, h2 ▸ k⟩

/-! ### f-strings -/
inductive JOk (X : Cx) (G : Sig) (W : WX) : List Expr → (List Nat → Stt → R D) → Prop
  | nil : JOk X G W [] (fun acc st => .ok (.str acc) st)
  | lit {z : List Nat} {x : Str} {j : Nat} {p : Pos} {es : List Expr} {f : List Nat → Stt → R D} (hz : x = ⟨z.toArray⟩) (h : JOk X G W es f) : JOk X G W (.Constant (.str x) j p :: es) (fun acc st => if acc.length + z.length ≤ LIM then f (acc ++ z) st else .bad)
  | val {e : Expr} {p : Pos} {es : List Expr} {r : Stt → R D} {f : List Nat → Stt → R D} (he : PE X e (tE G W r)) (h : JOk X G W es f) : JOk X G W (.FormattedValue e (-1) none p :: es) (fun acc st => (r st).bnd fun x st => (match x with
    | .int i => if bits i < 1900 ∧ acc.length ≤ 100000 then f (acc ++ intL i) st else .bad
    | .str s => if acc.length + s.length ≤ LIM then f (acc ++ s) st else .bad
    | _ => .bad))
theorem pow_600 : 2 ^ (3 * 600 + 100) ≤ 10 ^ 600 := by decide +kernel
theorem numL_short {i : Int} (h : bits i < 1900) : (intL i).length ≤ 700 := by
  have key : (TL.numL i.natAbs).length ≤ 600 := by
    refine TL.numL_len (by decide) ?_
    have h1 : i.natAbs < 2 ^ 1900 := by
      by_cases h0 : i.natAbs = 0
      · rw [h0]; exact Nat.two_pow_pos _
      · exact (Nat.log2_lt h0).mp h
    exact Nat.lt_of_lt_of_le h1 (Nat.le_trans (Nat.pow_le_pow_right (by decide) (show 1900 ≤ 3 * 600 + 100 by decide)) pow_600)
  unfold intL
  split
  · rw [List.length_cons]; omega
  · omega
theorem j_run {es : List Expr} {f : List Nat → Stt → R D} (h : JOk X G W es f) : ∀ (acc : List Nat) (s : Shared) (H : Hp) (w : Wd) (st : Stt) (R : Str → Shared → Prop), acc.length ≤ LIM → Inv X pins σ H s → Sim G w st σ H → Aft G W σ w st.S.length (f acc st) K →
    (∀ out s1 H1 w1 st1, out.length ≤ LIM → Inv X pins σ H1 s1 → Sim G w1 st1 σ H1 → K (.str out) w1 st1 H1 → R ⟨out.toArray⟩ s1) → Joins (model X.prog X.w) X.A X.xe (evalEach es X.env) ⟨acc.toArray⟩ R s := by
  induction h with
  | nil =>
    intro acc s H w st R hz I sm a k
    exact k acc s H w st hz I sm (a.ok sm)
  | @lit z x j p es f hx h ih =>
    intro acc s H w st R hz I sm a k
    subst hx
    show wpAny _ _ (eval (.Constant (.str ⟨z.toArray⟩) j p) X.env) _ _ s
    dsimp only at a
    split at a
    · rename_i hl
      refine Calls.Constant_str ⟨_, _, rfl, ?_, ?_⟩
      · rw [strV_append, strV_len]; exact lim_le (by simpa using hl)
      · rw [strV_append]
        exact ih (acc ++ z) _ H w st R (by simpa using hl) (I.tok _) sm a k
    · exact a.elim
  | @val e p es r f he h ih =>
    intro acc s H w st R hz I sm a k
    show wpAny _ _ (eval (.FormattedValue e (-1) none p) X.env) _ _ s
    dsimp only at a
    refine wpAny_FormattedValue_plain (thn (goE he I sm a.bnd) fun v s1 ⟨x, H1, I1, r1, d, w1, st1, s1', rp, l, k1⟩ => ?_)
    split at k1
    · split at k1
      · rename_i i hb
        cases rp
        obtain ⟨t, rfl⟩ := r1
        have e0 : Str.ofString (toString i) = ⟨(intL i).toArray⟩ := TL.ext_tl (by rw [intL_tl])
        have hlen := numL_short hb.1
        refine wpAny_formatField_int (by unfold bits at hb; omega) ⟨⟨(intL i).toArray⟩, _, by rw [e0], ?_, ?_⟩
        · rw [strV_append, strV_len, List.length_append]; exact lim_le (by show _ ≤ 16000000; omega)
        · rw [strV_append]
          exact ih _ _ H1 w1 st1 R (by rw [List.length_append]; show _ ≤ 16000000; omega) (I1.tok _) s1' k1 k
      · exact k1.elim
    · split at k1
      · rename_i z hb
        cases rp
        obtain ⟨t, rfl⟩ := r1
        have go : ∀ (s2 : Shared) (t' : Tok), Inv X pins σ H1 s2 → ∃ (y : Str) (tk : Tok), (Value.str (⟨z.toArray⟩ : Str) t' : Value) = .str y tk ∧ ((⟨acc.toArray⟩ : Str) ++ y).length ≤ sizeLine ∧ Joins (model X.prog X.w) X.A X.xe (evalEach es X.env) ((⟨acc.toArray⟩ : Str) ++ y) R s2 := fun s2 t' I2 => by
          refine ⟨_, _, rfl, ?_, ?_⟩
          · rw [strV_append, strV_len]; exact lim_le (by simpa using hb)
          · rw [strV_append]
            exact ih (acc ++ z) _ H1 w1 st1 R (by simpa using hb) I2 s1' k1 k
        exact wpAny_formatField_str (go _ _ I1) (go _ _ (I1.tok _)) (by rw [strV_len]; exact lim_le (by omega))
      · exact k1.elim
    · exact k1.elim
theorem c_fst {v1 v2 : Expr} {rest : List Expr} {f : List Nat → Stt → R D} (h : JOk X G W (v1 :: v2 :: rest) f) : PE X (.JoinedStr (v1 :: v2 :: rest) pos) (tE G W fun st => f [] st) := by
  refine mkE fun pins s σ H w st K I sm a => ?_
  refine wpAny_JoinedStr (j_run h [] s H w st _ (Nat.zero_le _) I sm a fun out s1 H1 w1 st1 hz I1 s1' k => ⟨by rw [strV_len]; exact lim_le hz, ?_⟩)
  exact retE (v := strV out) (I1.tok _) ⟨_, rfl⟩ s1' (.str _) k
theorem c_fst1 {e : Expr} {p : Pos} (he : PE X e (tE G W r)) : PE X (.JoinedStr [.FormattedValue e (-1) none p] pos) (tE G W fun st => (r st).bnd fun x st => (match x with
    | .int i => if bits i < 1900 ∧ ([] : List Nat).length ≤ 100000 then .ok (.str ([] ++ intL i)) st else .bad
    | .str s => if ([] : List Nat).length + s.length ≤ LIM then .ok (.str ([] ++ s)) st else .bad
    | _ => .bad)) := by
  refine mkE fun pins s σ H w st K I sm a => ?_
  refine wpAny_JoinedStr_one (wpAny_FormattedValue_plain (thn (goE he I sm a.bnd) fun v s1 ⟨x, H1, I1, r1, d, w1, st1, s1', rp, l, k1⟩ => ?_))
  split at k1
  · split at k1
    · rename_i i hb
      cases rp
      obtain ⟨t, rfl⟩ := r1
      have e0 : Str.ofString (toString i) = ⟨(intL i).toArray⟩ := TL.ext_tl (by rw [intL_tl])
      refine wpAny_formatField_int (by unfold bits at hb; omega) ?_
      show EP X pins σ (EQ G σ K) (.str (Str.ofString (toString i)) _) _
      rw [e0]
      exact retE (v := strV _) (I1.tok _) ⟨_, rfl⟩ s1' (.str _) (k1.ok s1')
    · exact k1.elim
  · split at k1
    · rename_i z hb
      cases rp
      obtain ⟨t, rfl⟩ := r1
      exact wpAny_formatField_str (retE (v := strV _) I1 ⟨_, rfl⟩ s1' (.str _) (k1.ok s1')) (retE (v := strV _) (I1.tok _) ⟨_, rfl⟩ s1' (.str _) (k1.ok s1')) (by rw [strV_len]; exact lim_le (by simpa using hb))
    · exact k1.elim
  · exact k1.elim

/-! ### {a: va, b: vb}[k], of written texts -/
theorem c_pick2 {a va b vb : List Nat} {ja jva jb jvb : Nat} {pa' pva pb' pvb dp : Pos} (hu : X.A.units + 1 < cLine) (hab : a ≠ b) (hk : PE X pb (tE G W rb)) (hs : PlainIx pb) :
    PE X (.Subscript (.Dict [some (.Constant (.str ⟨a.toArray⟩) ja pa'), some (.Constant (.str ⟨b.toArray⟩) jb pb')] [.Constant (.str ⟨va.toArray⟩) jva pva, .Constant (.str ⟨vb.toArray⟩) jvb pvb] dp) pb pos)
      (tE G W fun st => (rb st).bnd fun x st => (match x with
        | .str s => if s = a then .ok (.str va) st else if s = b then .ok (.str vb) st else .bad
        | _ => .bad)) := by
  refine ⟨fun pins s σ H Q I ⟨w, st, sm, a0⟩ => ?_⟩
  refine (pe_dget hu (pe_disp (trs := [(tC (.str ⟨a.toArray⟩), tC (.str ⟨va.toArray⟩)), (tC (.str ⟨b.toArray⟩), tC (.str ⟨vb.toArray⟩))]) (pps_cons pe_str pe_str (pps_cons pe_str pe_str pps_nil)) rfl rfl (by simp) (by simp)) hk hs).run pins s σ H Q I ?_
  intro p hp
  have e2 : mergeK [] [((.inr ⟨a.toArray⟩ : Key), V.str ⟨va.toArray⟩), (.inr ⟨b.toArray⟩, V.str ⟨vb.toArray⟩)] = [(.inr ⟨a.toArray⟩, V.str ⟨va.toArray⟩), (.inr ⟨b.toArray⟩, V.str ⟨vb.toArray⟩)] := by
    have h1 : ¬ ((.inr ⟨a.toArray⟩ : Key) = .inr ⟨b.toArray⟩) := by simp [hab]
    simp [mergeK, putK, h1]
  refine ⟨upd_same, [((.inr ⟨a.toArray⟩ : Key), V.str ⟨va.toArray⟩), (.inr ⟨b.toArray⟩, V.str ⟨vb.toArray⟩)], rfl, by simp, ?_⟩
  rw [e2, upd_upd]
  have l := le_put (N := st.S.length) (ho := .dK [((.inr ⟨a.toArray⟩ : Key), V.str ⟨va.toArray⟩), (.inr ⟨b.toArray⟩, V.str ⟨vb.toArray⟩)]) (sm.bnone hp)
  refine ⟨_, st, sm.newB hp, (a0.mono l).bnd.imp fun d w1 st1 H1 l1 s1 ⟨_, k⟩ v rp => ?_⟩
  have hd : H1 p = some (.dK [((.inr ⟨a.toArray⟩ : Key), V.str ⟨va.toArray⟩), (.inr ⟨b.toArray⟩, V.str ⟨vb.toArray⟩)]) := s1.B _ _ (l1.B _ _ put_at)
  cases rp with
  | str z =>
    dsimp only at k
    split at k
    · rename_i e
      subst e
      exact ⟨p, V.str ⟨va.toArray⟩, rfl, .inl ⟨_, .inr ⟨z.toArray⟩, .inl hd, rfl, by simp [valV]⟩, k.ok s1 _ (.str _)⟩
    · rename_i e
      split at k
      · rename_i e'
        subst e'
        have e : ¬ z = a := e
        exact ⟨p, V.str ⟨vb.toArray⟩, rfl, .inl ⟨_, .inr ⟨z.toArray⟩, .inl hd, rfl, by simp [valV, Ne.symm e, show ¬ a = z from fun h => e h.symm]⟩, k.ok s1 _ (.str _)⟩
      · exact k.elim
  | _ => exact k.elim
end
end Tp

/-! Tp: what is walked, comprehensions. -/
namespace Tp
open PySem PySem.Spec PyProof.Rows L2
/-- the world grows, whatever is protected -/
structure Lb (w : Wd) (N : Nat) (w' : Wd) (N' : Nat) : Prop where
  B : ∀ a o, w.B a = some o → w'.B a = some o
  φ : ∀ n, n < N → w'.φ n = w.φ n
  N : N ≤ N'
theorem Le.lb {w w' : Wd} {N N' : Nat} (l : Le w N w' N') : Lb w N w' N' := ⟨l.B, l.φ, l.N⟩
theorem Lb.trans {w w1 w2 : Wd} {N N1 N2 : Nat} (a : Lb w N w1 N1) (b : Lb w1 N1 w2 N2) : Lb w N w2 N2 :=
  ⟨fun x o h => b.B x o (a.B x o h), fun n h => (b.φ n (Nat.lt_of_lt_of_le h a.N)).trans (a.φ n h), Nat.le_trans a.N b.N⟩
theorem Rep.up {G : Sig} {w w' : Wd} {N N' : Nat} (l : Lb w N w' N') {d : D} {v : V} (r : Rep G w N d v) : Rep G w' N' d v := r.mono0 l.B l.φ l.N
theorem Reps.up {G : Sig} {w w' : Wd} {N N' : Nat} (l : Lb w N w' N') {d : List D} {v : List V} (r : Reps G w N d v) : Reps G w' N' d v := r.mono0 l.B l.φ l.N
/-- a walk that yields these items while these cells stay as they are -/
def Itm (G : Sig) (J : It) (ds : List D) (cs : List (Nat × O)) (w0 : Wd) (N0 : Nat) : Prop :=
  ∀ (w : Wd) (st : Stt) (σ : L2.St) (H : Hp), Lb w0 N0 w st.S.length → Sim G w st σ H → stays cs st = true →
    (∀ (i : Nat) (d : D), ds[i]? = some d → J.go i H ∧ ∀ x H', J.yld i H x H' → ∃ w', Le w st.S.length w' st.S.length ∧ Sim G w' st σ H' ∧ Rep G w' st.S.length d x) ∧ ∀ i, ds.length ≤ i → J.stop i H
theorem Itm.mono {G : Sig} {J : It} {ds : List D} {cs : List (Nat × O)} {w0 w1 : Wd} {N0 N1 : Nat} (h : Itm G J ds cs w0 N0) (l : Lb w0 N0 w1 N1) : Itm G J ds cs w1 N1 :=
  fun w st σ H l2 sm q => h w st σ H (l.trans l2) sm q
def tI (G : Sig) (W : WX) (r : Stt → R (List D × List (Nat × O))) : TI := fun σ H R => ∃ w st, Sim G w st σ H ∧ Aft G W σ w st.S.length (r st) fun p w' st' H' => ∀ J, Itm G J p.1 p.2 w' st'.S.length → R J H'
section
variable {G : Sig} {W : WX} {X : Cx} {py pa pb tg : Expr} {r ra rb : Stt → R D} {pos : Pos}
variable {pins : List (Addr × Obj)} {s : Shared} {σ : L2.St} {H : Hp} {w : Wd} {st : Stt} {K : D → Wd → Stt → Hp → Prop}

theorem goI {r : Stt → R (List D × List (Nat × O))} {K : List D × List (Nat × O) → Wd → Stt → Hp → Prop} (h : PI X tg py (tI G W r)) (I : Inv X pins σ H s) (sm : Sim G w st σ H) (a : Aft G W σ w st.S.length (r st) K) :
    wpAny (model X.prog X.w) X.A (eval py X.env) (fun v s1 => wpAny (model X.prog X.w) X.A (pyIter v) (PIE X pins σ tg fun J H1 => ∃ p w1 st1, Sim G w1 st1 σ H1 ∧ Itm G J p.1 p.2 w1 st1.S.length ∧ K p w1 st1 H1) X.xe s1) X.xe s :=
  h.run pins s σ H _ I ⟨w, st, sm, a.imp fun p w1 st1 H1 _ s1 k J j => ⟨p, w1, st1, s1, j, k⟩⟩

/-- the walk of a list that stands -/
theorem itm_lst {a : Addr} {ds : List D} {cs : List (Nat × O)} {w0 : Wd} {N0 : Nat} (h : ∀ (w : Wd) (st : Stt) (σ : L2.St) (H : Hp), Lb w0 N0 w st.S.length → Sim G w st σ H → stays cs st = true → ∃ vs, SqL G.K H a vs ∧ Reps G w st.S.length ds vs) :
    Itm G (Itl G.K a) ds cs w0 N0 := by
  intro w st σ H l sm q
  obtain ⟨vs, hq, r⟩ := h w st σ H l sm q
  refine ⟨fun i d e => ?_, fun i hi => ⟨vs, hq, by rw [← r.length]; exact hi⟩⟩
  obtain ⟨v, ev, rv⟩ := r.get e
  refine ⟨⟨vs, v, hq, ev⟩, fun x H' y => ?_⟩
  obtain ⟨eH, y⟩ := y
  subst eH
  have e2 := y vs hq
  rw [ev] at e2
  cases e2
  exact ⟨w, Le.refl _ _, sm, rv⟩
theorem itm_tup {a : Addr} {ds : List D} {vs : List V} {w0 : Wd} {N0 : Nat} (hq : SqT G.K w0.B a vs) (r : Reps G w0 N0 ds vs) : Itm G (Itt G.K a) ds [] w0 N0 := by
  intro w st σ H l sm _
  have hq' : SqT G.K H a vs := sqT_mono sm.B (sqT_mono l.B hq)
  refine ⟨fun i d e => ?_, fun i hi => ⟨vs, hq', by rw [← r.length]; exact hi⟩⟩
  obtain ⟨v, ev, rv⟩ := r.get e
  refine ⟨⟨vs, v, hq', ev⟩, fun x H' y => ?_⟩
  obtain ⟨eH, y⟩ := y
  subst eH
  have e2 := y vs hq'
  rw [ev] at e2
  cases e2
  exact ⟨w, Le.refl _ _, sm, rv.up l⟩
theorem itm_str {z : List Nat} {w0 : Wd} {N0 : Nat} : Itm G (Its ⟨z.toArray⟩) (z.map fun c => .str [c]) [] w0 N0 := by
  intro w st σ H l sm _
  refine ⟨fun i d e => ?_, fun i hi => by show z.toArray.size ≤ i; simpa using hi⟩
  obtain ⟨c, e1, e2⟩ : ∃ c, z[i]? = some c ∧ d = .str [c] := by
    rw [List.getElem?_map] at e
    obtain ⟨c, h1, h2⟩ := Option.map_eq_some_iff.mp e
    exact ⟨c, h1, h2.symm⟩
  subst e2
  have hi : i < z.length := (List.getElem?_eq_some_iff.mp e1).1
  refine ⟨by show i < z.toArray.size; simpa using hi, fun x H' y => ?_⟩
  obtain ⟨eH, c', h1, h2⟩ := y
  subst eH
  have h1' : z[i]? = some c' := by simpa using h1
  rw [e1] at h1'
  cases h1'
  subst h2
  exact ⟨w, Le.refl _ _, sm, .str [c]⟩
theorem itm_rng {lo : Int} {n : Nat} {w0 : Wd} {N0 : Nat} : Itm G (L2.Itr lo n) (rangeL lo n) [] w0 N0 := by
  intro w st σ H l sm _
  refine ⟨fun i d e => ?_, fun i hi => by show n ≤ i; simpa [rangeL] using hi⟩
  unfold rangeL at e
  rw [List.getElem?_map] at e
  obtain ⟨j, h1, h2⟩ := Option.map_eq_some_iff.mp e
  obtain ⟨h3, h4⟩ := List.getElem?_eq_some_iff.mp h1
  have h3' : i < n := by simpa using h3
  have h4' : i = j := by simpa using h4
  subst h2 h4'
  refine ⟨h3', fun x H' y => ?_⟩
  obtain ⟨eH, ex⟩ := y
  subst eH ex
  exact ⟨w, Le.refl _ _, sm, .int _⟩
theorem c_itE (hK : X.K = G.K) (h : PE X py (tE G W r)) : PI X tg py (tI G W fun st => (r st).bnd fun d st => optR (itemsOf st.S d) st) := by
  refine ⟨fun pins s σ H R I ⟨w, st, sm, a⟩ => ?_⟩
  dsimp only at a
  cases e : r st with
  | bad => rw [e] at a; exact a.elim
  | exc c d st1 =>
    refine (pi_list h).run pins s σ H R I ⟨w, st, sm, ?_⟩
    rw [e] at a ⊢
    exact a
  | ok d st1 =>
    rw [e] at a
    obtain ⟨p, hp, a⟩ := Aft.opt' (a : Aft G W σ w st.S.length (optR (itemsOf st1.S d) st1) _)
    cases d with
    | lst xs =>
      cases hp
      refine (pi_list h).run pins s σ H R I ⟨w, st, sm, ?_⟩
      rw [e]
      intro w1 H1 l s1 v rp
      cases rp with
      | lst hq hl rr =>
        refine ⟨_, rfl, ⟨_, by rw [hK]; exact .inl (.inl (s1.B _ _ hq))⟩, a w1 H1 l s1 _ ?_⟩
        rw [hK]
        exact itm_lst fun w2 st2 σ2 H2 l2 sm2 _ => ⟨_, .inl (.inl (sm2.B _ _ (l2.B _ _ hq))), rr.up l2⟩
    | ro xs =>
      cases hp
      refine (pi_list h).run pins s σ H R I ⟨w, st, sm, ?_⟩
      rw [e]
      intro w1 H1 l s1 v rp
      cases rp with
      | ro hq hl rr =>
        refine ⟨_, rfl, ⟨_, by rw [hK]; exact sqL_mono s1.B hq⟩, a w1 H1 l s1 _ ?_⟩
        rw [hK]
        exact itm_lst fun w2 st2 σ2 H2 l2 sm2 _ => ⟨_, sqL_mono sm2.B (sqL_mono l2.B hq), rr.up l2⟩
    | tup xs =>
      cases hp
      refine (pi_tup h).run pins s σ H R I ⟨w, st, sm, ?_⟩
      rw [e]
      intro w1 H1 l s1 v rp
      cases rp with
      | tup hq hl rr =>
        refine ⟨_, rfl, ⟨_, by rw [hK]; exact sqT_mono s1.B hq⟩, a w1 H1 l s1 _ ?_⟩
        rw [hK]
        exact itm_tup hq rr
    | str z =>
      cases hp
      refine (pi_str h).run pins s σ H R I ⟨w, st, sm, ?_⟩
      rw [e]
      intro w1 H1 l s1 v rp
      cases rp with
      | str z => exact ⟨_, rfl, a w1 H1 l s1 _ itm_str⟩
    | cell n =>
      simp only [itemsOf] at hp
      split at hp
      · rename_i xs en
        cases hp
        refine (pi_list h).run pins s σ H R I ⟨w, st, sm, ?_⟩
        rw [e]
        intro w1 H1 l s1 v rp
        cases rp with
        | cell hn =>
          obtain ⟨ho, h1, h2⟩ := s1.cellAt en rfl
          cases h2 with
          | lst hl rr =>
            refine ⟨_, rfl, ⟨_, .inl (.inl h1)⟩, a w1 H1 l s1 _ ?_⟩
            rw [hK]
            refine itm_lst fun w2 st2 σ2 H2 l2 sm2 q => ?_
            have q' : st2.S[n]? = some (.lst xs) := by
              have := List.all_eq_true.mp q (n, .lst xs) (by simp)
              exact of_decide_eq_true this
            obtain ⟨ho2, g1, g2⟩ := sm2.cellAt q' rfl
            cases g2 with
            | lst hl2 rr2 =>
              refine ⟨_, .inl (.inl ?_), rr2⟩
              rw [← l2.φ n hn]
              exact g1
      · rename_i xs en
        cases hp
        refine (pi_list h).run pins s σ H R I ⟨w, st, sm, ?_⟩
        rw [e]
        intro w1 H1 l s1 v rp
        cases rp with
        | cell hn =>
          have rp2 := s1.fz n _ en
          generalize hv : V.ref (w1.φ n) = v2 at rp2
          cases rp2 with
          | lst hq hl rr =>
            cases hv
            refine ⟨_, rfl, ⟨_, by rw [hK]; exact .inl (.inl (s1.B _ _ hq))⟩, a w1 H1 l s1 _ ?_⟩
            rw [hK]
            exact itm_lst fun w2 st2 σ2 H2 l2 sm2 _ => ⟨_, .inl (.inl (sm2.B _ _ (l2.B _ _ hq))), rr.up l2⟩
      · cases hp
    | non => cases hp
    | bl b => cases hp
    | int i => cases hp
    | dic k => cases hp
    | ins c f => cases hp
    | fn n => cases hp
theorem c_itR1 {p : Pos} (hg : Gl X "range") (hm : X.mg "range" = none) (ha : PE X pa (tE G W ra)) (hp : plainE pa = true) : PI X tg (.Call (.Name "range" p) [pa] [] pos) (tI G W fun st => (ra st).bnd fun d st => (match d with
    | .int j => if small62 j then .ok (rangeL 0 j.toNat, []) st else .bad
    | _ => .bad)) := by
  refine ⟨fun pins s σ H R I ⟨w, st, sm, a⟩ => ?_⟩
  dsimp only at a
  refine (pi_range1 hg hm (a_cons ha a_nil (star1 hp)) (by rw [star1 hp]; rfl)).run pins s σ H R I ⟨w, st, sm, ?_⟩
  show Aft G W σ w st.S.length ((ra st).bnd fun d st => .ok [d] st) _
  cases e : ra st with
  | bad => rw [e] at a; exact a.elim
  | exc c d st1 => rw [e] at a; exact a
  | ok d st1 =>
    rw [e] at a
    intro w1 H1 l s1 vs rps
    cases rps with
    | cons r1 r2 =>
      cases r2
      have a : Aft G W σ w st.S.length (match d with
        | .int j => if small62 j then .ok (rangeL 0 j.toNat, []) st1 else .bad
        | _ => .bad) _ := a
      split at a
      · split at a
        · rename_i hz
          cases r1
          obtain ⟨z1, z2⟩ := of_decide_eq_true hz
          exact ⟨_, rfl, z1, z2, a w1 H1 l s1 _ itm_rng⟩
        · exact a.elim
      · exact a.elim
theorem c_itR2 {p : Pos} (hg : Gl X "range") (hm : X.mg "range" = none) (ha : PE X pa (tE G W ra)) (hb : PE X pb (tE G W rb)) (hp : plainE pa = true) (hp2 : plainE pb = true) : PI X tg (.Call (.Name "range" p) [pa, pb] [] pos) (tI G W fun st => (ra st).bnd fun d st => (rb st).bnd fun e st => (match d, e with
    | .int i, .int j => if small62 i && small62 j then .ok (rangeL i (j - i).toNat, []) st else .bad
    | _, _ => .bad)) := by
  refine ⟨fun pins s σ H R I ⟨w, st, sm, a⟩ => ?_⟩
  dsimp only at a
  refine (pi_range2 hg hm (a_cons ha (a_cons hb a_nil (star1 hp2)) (star1 hp)) (by rw [star1 hp, star1 hp2]; rfl) (by rw [star1 hp2]; rfl)).run pins s σ H R I ⟨w, st, sm, ?_⟩
  show Aft G W σ w st.S.length ((ra st).bnd fun d st => ((rb st).bnd fun e st => .ok [e] st).bnd fun ds st => .ok (d :: ds) st) _
  cases e : ra st with
  | bad => rw [e] at a; exact a.elim
  | exc c d st1 => rw [e] at a; exact a
  | ok d st1 =>
    rw [e] at a
    show Aft G W σ w st.S.length (((rb st1).bnd fun e st => .ok [e] st).bnd fun ds st => .ok (d :: ds) st) _
    have a : Aft G W σ w st.S.length ((rb st1).bnd _) _ := a
    cases e2 : rb st1 with
    | bad => rw [e2] at a; exact a.elim
    | exc c d st1 => rw [e2] at a; exact a
    | ok d2 st2 =>
      rw [e2] at a
      intro w1 H1 l s1 vs rps
      cases rps with
      | cons r1 r2 =>
        cases r2 with
        | cons r2 r3 =>
          cases r3
          have a : Aft G W σ w st.S.length (match d, d2 with
            | .int i, .int j => if small62 i && small62 j then .ok (rangeL i (j - i).toNat, []) st2 else .bad
            | _, _ => .bad) _ := a
          split at a
          · split at a
            · rename_i hz
              cases r1; cases r2
              rw [Bool.and_eq_true] at hz
              obtain ⟨z1, z2⟩ := of_decide_eq_true hz.1
              obtain ⟨z3, z4⟩ := of_decide_eq_true hz.2
              exact ⟨_, _, rfl, ⟨z1, z2, z3, z4⟩, a w1 H1 l s1 _ itm_rng⟩
            · exact a.elim
          · exact a.elim
end
end Tp

/-! Tp: comprehensions. -/
namespace Tp
open PySem PySem.Spec PyProof.Rows L2
section
variable {G : Sig} {w : Wd} {st : Stt} {σ : L2.St} {H : Hp} {p : Addr} {o : O} {ho : HO} {d : D} {v : V}
/-- p is kept as it is for a while -/
def Wd.prot (w : Wd) (p : Addr) (ho : HO) : Wd := ⟨w.B, upd w.P p ho, w.φ⟩
theorem Sim.prot (s : Sim G w st σ H) (hp : H p = some ho) (hB : w.B p = none) (ne : ∀ k o', liveO st k = some o' → adr w.φ σ k ≠ p) : Sim G (w.prot p ho) st σ H where
  B := s.B
  P := fun a u e => by
    by_cases h : a = p
    · subst h
      rw [show (w.prot a ho).P a = some ho from upd_same] at e
      cases e; exact hp
    · rw [show (w.prot p ho).P a = w.P a from upd_ne h] at e
      exact s.P a u e
  BP := fun a u e => by
    by_cases h : a = p
    · subst h
      rw [show (w.prot a ho).B a = w.B a from rfl, hB] at e
      cases e
    · rw [show (w.prot p ho).P a = w.P a from upd_ne h]
      exact s.BP a u e
  len := s.len
  val := fun i d h => let ⟨v, a, b⟩ := s.val i d h; ⟨v, a, b.sw rfl rfl⟩
  own := s.own
  live := fun k o h => by
    obtain ⟨u, a, b, c, e⟩ := s.live k o h
    refine ⟨u, a, b.sw rfl rfl, c, ?_⟩
    show upd w.P p ho (adr w.φ σ k) = none
    rw [upd_ne (ne k o h)]
    exact e
  inj := s.inj
  fz := fun n d h => (s.fz n d h).sw rfl rfl
/-- .. and no more -/
def Wd.unprot (w : Wd) (P : Hp) : Wd := ⟨w.B, P, w.φ⟩
theorem Sim.unprot {P : Hp} (s : Sim G w st σ H) (hw : w.P = upd P p ho) (hP : P p = none) :
    Sim G (w.unprot P) st σ H ∧ H p = some ho ∧ w.B p = none ∧ ∀ k o', liveO st k = some o' → adr w.φ σ k ≠ p := by
  have hp : w.P p = some ho := by rw [hw]; exact upd_same
  have sub : ∀ a u, P a = some u → w.P a = some u := fun a u e => by
    have : a ≠ p := fun h => by subst h; rw [hP] at e; cases e
    rw [hw, upd_ne this]; exact e
  refine ⟨⟨s.B, fun a u e => s.P a u (sub a u e), fun a u e => ?_, s.len, fun i d h => let ⟨v, a, b⟩ := s.val i d h; ⟨v, a, b.sw rfl rfl⟩, s.own, fun k o h => ?_, s.inj, fun n d h => (s.fz n d h).sw rfl rfl⟩, s.P p ho hp, ?_, fun k o' h e => ?_⟩
  · have z := s.BP a u e
    cases q : P a with
    | none => exact q
    | some x => rw [sub a x q] at z; cases z
  · obtain ⟨u, a, b, c, e⟩ := s.live k o h
    refine ⟨u, a, b.sw rfl rfl, c, ?_⟩
    cases q : P (adr w.φ σ k) with
    | none => exact q
    | some x => rw [sub _ x q] at e; cases e
  · cases q : w.B p with
    | none => rfl
    | some x => have := s.BP p x q; rw [hp] at this; cases this
  · obtain ⟨_, _, _, _, z⟩ := s.live k o' h
    rw [e, hp] at z; cases z
/-- a new object changed -/
theorem Sim.updAt (s : Sim G w st σ H) (hB : w.B p = none) (hP : w.P p = none) (ne : ∀ k o', liveO st k = some o' → adr w.φ σ k ≠ p) : Sim G w st σ (upd H p ho) where
  B := fun a u e => by rw [upd_ne (ne_of_none e hB)]; exact s.B a u e
  P := fun a u e => by rw [upd_ne (ne_of_none e hP)]; exact s.P a u e
  BP := s.BP
  len := s.len
  val := s.val
  own := s.own
  live := fun k o h => by
    obtain ⟨u, a, b⟩ := s.live k o h
    exact ⟨u, by rw [upd_ne (ne k o h)]; exact a, b⟩
  inj := s.inj
  fz := s.fz
/-- another frame that agrees where slots hold anything -/
theorem Sim.reσ {σ' : L2.St} (s : Sim G w st σ H) (hl : σ'.length = σ.length) (h : ∀ (i : Nat) (x : Sl), st.σ[i]? = some x → x ≠ Sl.no → σ'[i]? = σ[i]?) : Sim G w st σ' H ∧ ∀ k o, liveO st k = some o → adr w.φ σ' k = adr w.φ σ k := by
  have ha : ∀ k o, liveO st k = some o → adr w.φ σ' k = adr w.φ σ k := fun k o hk => by
    cases k with
    | c n => rfl
    | s i =>
      rw [liveO_s] at hk
      cases e : st.σ[i]? with
      | none => rw [e] at hk; cases hk
      | some x =>
        show refOf (σ'[i]?) = refOf (σ[i]?)
        rw [h i x e fun z => by subst z; rw [e] at hk; cases hk]
  refine ⟨⟨s.B, s.P, s.BP, by rw [hl]; exact s.len, fun i d e => ?_, fun i o e => ?_, fun k o e => ?_, fun k k' o o' e e' z => ?_, s.fz⟩, ha⟩
  · rw [h i _ e fun z => nomatch z]; exact s.val i d e
  · rw [h i _ e fun z => nomatch z]; exact s.own i o e
  · rw [ha k o e]; exact s.live k o e
  · rw [ha k o e, ha k' o' e'] at z; exact s.inj k k' o o' e e' z
theorem wipeL_get (σ : L2.St) (i : Nat) : ∀ vs : List Nat, i ∉ vs → (L2.wipe σ vs)[i]? = σ[i]?
  | [], _ => rfl
  | v :: vs, h => by
    simp only [List.mem_cons, not_or] at h
    unfold L2.wipe
    rw [getElem?_set_ne' h.1]
    exact wipeL_get σ i vs h.2
theorem wipeL_in (σ : L2.St) (i : Nat) : ∀ vs : List Nat, i ∈ vs → (L2.wipe σ vs)[i]? = σ[i]?.map fun _ => none
  | v :: vs, h => by
    unfold L2.wipe
    by_cases e : i = v
    · subst e
      by_cases hl : i < σ.length
      · rw [List.getElem?_set_self (by rw [L2.wipe_length]; exact hl), List.getElem?_eq_getElem hl]; rfl
      · rw [List.getElem?_eq_none (by rw [List.length_set, L2.wipe_length]; omega), List.getElem?_eq_none (by omega)]; rfl
    · rw [getElem?_set_ne' e]
      rcases List.mem_cons.mp h with h | h
      · exact absurd h e
      · exact wipeL_in σ i vs h
theorem wipeL_set {σ : L2.St} {i : Nat} {x : Option V} {vs : List Nat} (h : i ∈ vs) : L2.wipe (σ.set i x) vs = L2.wipe σ vs := by
  apply List.ext_getElem?
  intro j
  by_cases hj : j ∈ vs
  · rw [wipeL_in _ _ _ hj, wipeL_in _ _ _ hj]
    by_cases e : j = i
    · subst e
      by_cases hl : j < σ.length
      · rw [List.getElem?_set_self hl, List.getElem?_eq_getElem hl]; rfl
      · rw [List.getElem?_eq_none (by rw [List.length_set]; omega), List.getElem?_eq_none (by omega)]
    · rw [getElem?_set_ne' e]
  · rw [wipeL_get _ _ _ hj, wipeL_get _ _ _ hj, getElem?_set_ne' fun e => hj (by rw [e]; exact h)]
/-- the block's own slots are empty -/
def clean (l : List Sl) (vs : List Nat) : Prop := ∀ i ∈ vs, ∀ x : Sl, l[i]? = some x → x = .no
theorem clean_wipe (l : List Sl) : ∀ vs : List Nat, clean (wipe l vs) vs
  | v :: vs, i, hi, x, e => by
    unfold wipe at e
    by_cases h : i = v
    · subst h
      by_cases hl : i < (wipe l vs).length
      · rw [List.getElem?_set_self hl] at e; cases e; rfl
      · rw [List.getElem?_eq_none (by rw [List.length_set]; omega)] at e; cases e
    · rw [getElem?_set_ne' h] at e
      rcases List.mem_cons.mp hi with z | z
      · exact absurd z h
      · exact clean_wipe l vs i z x e

/-- a target's reading -/
def gNs : List Nat → TGs
  | [] => gNil
  | i :: is => gCons (gName i) (gNs is)
def gOf (G : Sig) : Tg → TG
  | .nm i => gName i
  | .tp is => gTup G.K is.length (gNs is)
def tgIn : Tg → List Nat → Bool
  | .nm i, vs => vs.contains i
  | .tp is, vs => is.all vs.contains
theorem gNs_run {N : Nat} {Q : L2.St → Hp → Prop} : ∀ {is : List Nat} {ds : List D} {xs : List V} {st st2 : Stt} {σ : L2.St}, Sim G w st σ H → st.S.length = N → Reps G w N ds xs → setVs is ds st = some st2 →
    (∀ σ2, Sim G w st2 σ2 H → st2.S = st.S → (∀ vs, is.all vs.contains = true → L2.wipe σ2 vs = L2.wipe σ vs) → Q σ2 H) → xs.length = is.length ∧ gNs is xs σ H Q
  | [], [], _, st, st2, σ, sm, _, .nil, h, hq => by
    cases h
    exact ⟨rfl, rfl, hq σ sm rfl fun _ _ => rfl⟩
  | i :: is, d :: ds, _, st, st2, σ, sm, hn, .cons (v := v) (vs := xs) r rr, h, hq => by
    have h : setVs is ds (setV i d st) = some st2 := h
    have r' : Rep G w st.S.length d v := hn ▸ r
    obtain ⟨a, b⟩ := gNs_run (Q := Q) (sm.setVal i r') hn rr h fun σ2 s2 e hw => hq σ2 s2 e fun vs hv => by
      rw [List.all_cons, Bool.and_eq_true] at hv
      rw [hw vs hv.2, wipeL_set (List.contains_iff_mem.mp hv.1)]
    exact ⟨by simp [a], v, xs, rfl, b⟩
  | [], d :: ds, _, _, _, _, _, _, _, h, _ => by cases h
  | i :: is, [], _, _, _, _, _, _, _, h, _ => by cases h
theorem gOf_run {tg : Tg} {Q : L2.St → Hp → Prop} {st2 : Stt} (sm : Sim G w st σ H) (rp : Rep G w st.S.length d v) (h : bindT tg d st = some st2)
    (hq : ∀ σ2, Sim G w st2 σ2 H → st2.S = st.S → (∀ vs, tgIn tg vs = true → L2.wipe σ2 vs = L2.wipe σ vs) → Q σ2 H) : gOf G tg v σ H Q := by
  cases tg with
  | nm i =>
    cases h
    exact hq _ (sm.setVal i rp) rfl fun vs hv => wipeL_set (List.contains_iff_mem.mp hv)
  | tp is =>
    cases d with
    | tup ds =>
      cases rp with
      | tup hs hl rr =>
        obtain ⟨a, b⟩ := gNs_run (Q := Q) sm rfl rr h hq
        exact ⟨_, _, rfl, sqT_mono sm.B hs, a, b⟩
    | _ => cases h
end

/-- tests as bools -/
def tB (G : Sig) (W : WX) (r : Stt → R Bool) : TT := fun σ H Q => ∃ w st, Sim G w st σ H ∧ Aft G W σ w st.S.length (r st) fun b w' st' H' => Q b H'
abbrev FF : WX := fun _ _ _ _ => False
abbrev lcR (ri : Stt → R (List D × List (Nat × O))) (T : Tg) (own : List Nat) (rt : Stt → R Bool) (re : Stt → R D) : Stt → R D := fun st => (ri st).bnd fun p st =>
  (if p.1.length ≤ LIM then mapL (stays p.2) (turn T own rt re) p.1 ⟨wipe st.σ own, st.S⟩ else .bad).bnd fun ys st => .ok (.lst ys) st
section
variable {G : Sig} {W : WX} {X : Cx}
theorem pts_tB0 {W : WX} : PTs X [] (tB G W fun st => .ok true st) := ⟨fun pins s σ H Q I ⟨w, st, sm, a⟩ => wpAny_tests_nil ⟨H, I, a.ok sm⟩⟩
theorem pts_tB1 {W : WX} {c : Expr} {r : Stt → R D} (h : PT X c (tT G W r)) : PTs X [c] (tB G W fun st => (r st).bnd fun x st => (match x with
    | .bl b => .ok b st
    | _ => .bad)) := pts_one ⟨fun pins s σ H Q I ⟨w, st, sm, a⟩ => thn (goT h I sm a.bnd) fun b s1 ⟨H1, I1, w1, st1, s1', l, k⟩ => ⟨H1, I1, Aft.ok k s1'⟩⟩
theorem bnd_okR {α β : Type} {r : R α} {f : α → Stt → R β} {b : β} {s : Stt} (h : r.bnd f = .ok b s) : ∃ a s1, r = .ok a s1 ∧ f a s1 = .ok b s := by
  cases r with
  | ok a s1 => exact ⟨a, s1, rfl, h⟩
  | exc => cases h
  | bad => cases h
theorem lc_run {ri : Stt → R (List D × List (Nat × O))} {T : Tg} {own : List Nat} {rt : Stt → R Bool} {re : Stt → R D} {σ : L2.St} {H : Hp} {w : Wd} {st : Stt} {K : D → Wd → Stt → Hp → Prop} (hT : tgIn T own = true)
    (sm : Sim G w st σ H) (a : Aft G W σ w st.S.length (lcR ri T own rt re st) K) :
    tLc (tI G W ri) (gOf G T) (tB G FF rt) (tE G FF re) own σ H (fun v H1 => ∃ ys w1 st1 p, v = .ref p ∧ Sim G w1 st1 σ H1 ∧ Fresh G w1 st1 σ H1 p (.lst ys) ∧ K (.lst ys) w1 st1 H1) := by
  refine ⟨w, st, sm, a.bnd.imp fun p w1 st1 H1 l1 s1 ⟨_, k⟩ J hJ L hL => ?_⟩
  -- the run is fixed
  obtain ⟨hlen, yf, stf, hm, k⟩ : p.1.length ≤ LIM ∧ ∃ yf stf, mapL (stays p.2) (turn T own rt re) p.1 ⟨wipe st1.σ own, st1.S⟩ = .ok yf stf ∧ Aft G W σ w1 st1.S.length (.ok (.lst yf) stf) K := by
    by_cases h : p.1.length ≤ LIM
    · rw [if_pos h] at k
      refine ⟨h, ?_⟩
      generalize hr : mapL (stays p.2) (turn T own rt re) p.1 ⟨wipe st1.σ own, st1.S⟩ = r at k
      cases r with
      | ok yf stf => exact ⟨yf, stf, rfl, k⟩
      | bad => exact k.elim
      | exc c d s =>
        exfalso
        have : ∀ (ds : List D) (st : Stt), mapL (stays p.2) (turn T own rt re) ds st ≠ .exc c d s := fun ds st e => by
          cases ds with
          | nil => unfold mapL at e; split at e <;> cases e
          | cons d ds =>
            unfold mapL at e
            split at e
            · split at e
              · split at e <;> cases e
              · cases e
            · cases e
        exact this _ _ hr
    · rw [if_neg h] at k; exact k.elim
  have k : ∀ (w' : Wd) (H' : Hp), Le w1 st1.S.length w' stf.S.length → Sim G w' stf σ H' → K (.lst yf) w' stf H' := k
  have hB : w1.B L = none := s1.bnone hL
  have hP : w1.P L = none := s1.pnone hL
  refine ⟨fun i m H' => m = p.1.length - i ∧ i ≤ p.1.length ∧ ∃ (w2 : Wd) (st2 : Stt) (vs : List V) (ys zs : List D), Le w1 st1.S.length w2 st2.S.length ∧ Sim G w2 st2 (L2.wipe σ own) H' ∧ w2.B L = none ∧ (∀ k o', liveO st2 k = some o' → adr w2.φ (L2.wipe σ own) k ≠ L) ∧ H' L = some (.lst vs) ∧ Reps G w2 st2.S.length ys vs ∧ vs.length ≤ i ∧ clean st2.σ own ∧ mapL (stays p.2) (turn T own rt re) (p.1.drop i) st2 = .ok zs stf ∧ ys ++ zs = yf,
    ⟨p.1.length, by simp, Nat.zero_le _, w1, ⟨wipe st1.σ own, st1.S⟩, [], [], yf, Le.refl _ _, (s1.wiped own).grow hL, hB, fun k o' e => (s1.wiped own).lne hL e, upd_same, .nil, Nat.le_refl _, clean_wipe _ _, by simpa using hm, rfl⟩, ?_⟩
  rintro i m H2 ⟨rfl, hi, w2, st2, vs, ys, zs, l2, s2, hB2, ne2, hL2, rr2, hv2, cl2, hm2, hy2⟩
  have hP2 : w2.P L = none := by rw [l2.P]; exact hP
  have lb : Lb w1 st1.S.length (w2.prot L (.lst vs)) st2.S.length := ⟨l2.B, l2.φ, l2.N⟩
  have sp := s2.prot hL2 hB2 ne2
  cases hd : p.1.drop i with
  | nil =>
    left
    rw [hd] at hm2
    unfold mapL at hm2
    split at hm2
    · rename_i hch
      cases hm2
      have hil : p.1.length ≤ i := List.drop_eq_nil_iff.mp hd
      refine ⟨(hJ _ _ _ _ lb sp hch).2 i hil, ?_⟩
      obtain ⟨s3, ha⟩ := s2.reσ (σ' := σ) (by rw [L2.wipe_length]) fun j x e n => (wipeL_get σ j own fun hj => n (cl2 j hj x e)).symm
      have hy : ys = yf := by simpa using hy2
      subst hy
      exact ⟨ys, w2, stf, L, rfl, s3, ⟨⟨_, hL2, .lst (Nat.le_trans hv2 (by have := lim_le hlen; omega)) rr2⟩, hB2, hP2, fun k o' e => by rw [ha k o' e]; exact ne2 k o' e, rfl⟩, k w2 H2 l2 s3⟩
    · cases hm2
  | cons d ds =>
    right
    rw [hd] at hm2
    have hlt : i < p.1.length := by
      rcases Nat.lt_or_ge i p.1.length with h | h
      · exact h
      · rw [List.drop_eq_nil_of_le h] at hd; cases hd
    have hget : p.1[i]? = some d := by
      have : (p.1.drop i)[0]? = some d := by rw [hd]; rfl
      simpa using this
    have hds : p.1.drop (i + 1) = ds := by
      rw [← List.tail_drop, hd]; rfl
    unfold mapL at hm2
    split at hm2
    · rename_i hch
      obtain ⟨go, yl⟩ := (hJ _ _ _ _ lb sp hch).1 i d hget
      refine ⟨go, fun H' => ∃ m', m' < p.1.length - i ∧ m' = p.1.length - (i + 1) ∧ i + 1 ≤ p.1.length ∧ ∃ (w2 : Wd) (st2 : Stt) (vs : List V) (ys zs : List D), Le w1 st1.S.length w2 st2.S.length ∧ Sim G w2 st2 (L2.wipe σ own) H' ∧ w2.B L = none ∧ (∀ k o', liveO st2 k = some o' → adr w2.φ (L2.wipe σ own) k ≠ L) ∧ H' L = some (.lst vs) ∧ Reps G w2 st2.S.length ys vs ∧ vs.length ≤ i + 1 ∧ clean st2.σ own ∧ mapL (stays p.2) (turn T own rt re) (p.1.drop (i + 1)) st2 = .ok zs stf ∧ ys ++ zs = yf, fun H' ⟨m', h1, h2⟩ => ⟨m', h1, h2⟩, fun x H3 y3 => ?_⟩
      obtain ⟨w3, l3, s3, rx⟩ := yl x H3 y3
      split at hm2
      · rename_i o st4 ht
        split at hm2
        · rename_i zs' stz hz
          cases hm2
          unfold turn at ht
          cases hb : bindT T d st2 with
          | none => rw [hb] at ht; cases ht
          | some st5 =>
            rw [hb] at ht
            obtain ⟨b, st6, e6, ht⟩ := bnd_okR ht
            refine gOf_run s3 rx hb fun σ2 s5 eS hw => ⟨(hw own hT).trans (by
              apply List.ext_getElem?
              intro j
              by_cases hj : j ∈ own
              · rw [wipeL_in _ _ _ hj, wipeL_in _ _ _ hj]
                cases σ[j]? <;> rfl
              · rw [wipeL_get _ _ _ hj]), w3, st5, s5, ?_⟩
            have hwσ : L2.wipe σ2 own = L2.wipe σ own := (hw own hT).trans (by
              apply List.ext_getElem?
              intro j
              by_cases hj : j ∈ own
              · rw [wipeL_in _ _ _ hj, wipeL_in _ _ _ hj]
                cases σ[j]? <;> rfl
              · rw [wipeL_get _ _ _ hj])
            have e6 : rt st5 = .ok b st6 := e6
            rw [e6]
            intro w6 H6 l6 s6
            have l36 : Le (w2.prot L (.lst vs)) st2.S.length w6 st6.S.length := l3.trans (by rw [← eS]; exact l6)
            -- the end of a turn
            have fin : ∀ {w7 : Wd} {st7 : Stt} {H7 : Hp} {zs2 : List D} {vs2 : List V} (o : Option D), Le (w2.prot L (.lst vs)) st2.S.length w7 st7.S.length → Sim G w7 st7 σ2 H7 → st4 = ⟨wipe st7.σ own, st7.S⟩ → (Reps G w7 st7.S.length o.toList vs2) → vs2.length ≤ 1 → ys ++ (o.toList ++ zs') = yf →
                Sim G (w7.unprot w2.P) ⟨wipe st7.σ own, st7.S⟩ (L2.wipe σ own) (upd H7 L (.lst (vs ++ vs2))) ∧ H7 L = some (.lst vs) ∧ (∃ m', m' < p.1.length - i ∧ m' = p.1.length - (i + 1) ∧ i + 1 ≤ p.1.length ∧ ∃ (w2 : Wd) (st2 : Stt) (vs' : List V) (ys zs : List D), Le w1 st1.S.length w2 st2.S.length ∧ Sim G w2 st2 (L2.wipe σ own) (upd H7 L (.lst (vs ++ vs2))) ∧ w2.B L = none ∧ (∀ k o', liveO st2 k = some o' → adr w2.φ (L2.wipe σ own) k ≠ L) ∧ (upd H7 L (.lst (vs ++ vs2))) L = some (.lst vs') ∧ Reps G w2 st2.S.length ys vs' ∧ vs'.length ≤ i + 1 ∧ clean st2.σ own ∧ mapL (stays p.2) (turn T own rt re) (p.1.drop (i + 1)) st2 = .ok zs stf ∧ ys ++ zs = yf) := by
              intro w7 st7 H7 zs2 vs2 o l7 s7 e4 r7 h7 hyy
              have sw := s7.wiped own
              rw [hwσ] at sw
              obtain ⟨s8, hL8, hB8, ne8⟩ := sw.unprot (P := w2.P) (p := L) (ho := .lst vs) (l7.P) hP2
              have s9 := s8.updAt (ho := .lst (vs ++ vs2)) hB8 hP2 ne8
              have l9 : Le w1 st1.S.length (w7.unprot w2.P) st7.S.length := ⟨fun a o e => l7.B a o (l2.B a o e), l2.P, fun n hn => (l7.φ n (Nat.lt_of_lt_of_le hn l2.N)).trans (l2.φ n hn), Nat.le_trans l2.N l7.N⟩
              refine ⟨s9, hL8, p.1.length - (i + 1), by omega, rfl, hlt, w7.unprot w2.P, ⟨wipe st7.σ own, st7.S⟩, vs ++ vs2, ys ++ o.toList, zs', l9, s9, hB8, ne8, upd_same, ?_, by rw [List.length_append]; omega, clean_wipe _ _, by rw [hds, ← e4]; exact hz, by rw [List.append_assoc]; exact hyy⟩
              have q1 : Reps G (w7.unprot w2.P) st7.S.length ys vs := (Reps.mono (w := w2.prot L (.lst vs)) l7 (rr2.sw rfl rfl)).sw rfl rfl
              have q2 : Reps G (w7.unprot w2.P) st7.S.length o.toList vs2 := r7.sw rfl rfl
              exact q1.append q2
            cases b with
            | false =>
              simp only [Bool.false_eq_true, if_false] at ht ⊢
              cases ht
              obtain ⟨_, hh, q⟩ := fin (zs2 := []) (vs2 := []) none l36 s6 rfl .nil (by simp) (by simpa using hy2)
              have e7 : upd H6 L (.lst (vs ++ [])) = H6 := by
                funext a
                by_cases h : a = L
                · subst h; rw [upd_same, hh, List.append_nil]
                · rw [upd_ne h]
              rw [e7] at q
              exact q
            | true =>
              simp only [if_true] at ht ⊢
              obtain ⟨y, st7, e7, ht⟩ := bnd_okR ht
              cases ht
              refine ⟨w6, st6, s6, ?_⟩
              have e7 : re st6 = .ok y st7 := e7
              rw [e7]
              intro w7 H7 l7 s7 v rv
              obtain ⟨_, hh, q⟩ := fin (zs2 := []) (vs2 := [v]) (some y) (l36.trans l7) s7 rfl (.cons rv .nil) (by simp) (by simpa using hy2)
              refine ⟨vs, hh, ?_, q⟩
              have := lim_le hlen
              omega
        · cases hm2
      · cases hm2
    · cases hm2
section
variable {elt tg iter : Expr} {ifs : List Expr} {scope : Scope} {own : List (Str × Nat)} {pos : Pos} {ri : Stt → R (List D × List (Nat × O))} {T : Tg} {rt : Stt → R Bool} {re : Stt → R D}
theorem c_lcO (hc : X.calm = true) (hN : X.N.Nodup) (hi : PI X tg iter (tI G W ri)) (ok : BlkOk X.N X.env.scope scope own) (hT : tgIn T (own.map (·.2)) = true)
    (hg : ∀ (s : Shared) (H : Hp) (C : Addr) (cl : List (Str × Addr)) (fp : List Addr), PG (X.blk s H scope (compEnvC scope cl C X.env) fp) tg (gOf G T)) (ht : ∀ (s : Shared) (H : Hp) (C : Addr) (cl : List (Str × Addr)) (fp : List Addr), PTs (X.blk s H scope (compEnvC scope cl C X.env) fp) ifs (tB G FF rt))
    (he : ∀ (s : Shared) (H : Hp) (C : Addr) (cl : List (Str × Addr)) (fp : List Addr), PE (X.blk s H scope (compEnvC scope cl C X.env) fp) elt (tE G FF re)) (hs : ∀ x, foldedSetIterable iter X.env x = pure x) :
    PE X (.ListComp elt [⟨tg, iter, ifs, 0⟩] scope pos) (tO G W (lcR ri T (own.map (·.2)) rt re)) :=
  mkO fun pins s σ H w st K I sm a => thn ((pe_lc hc hN hi ok hg ht he hs).run pins s σ H _ I (lc_run hT sm a)) fun u s1 ⟨v, H1, I1, rv, ys, w1, st1, p, e, s1', f, k⟩ => ⟨v, H1, I1, rv, .lst ys, w1, st1, p, .lst ys, e, rfl, rfl, s1', f, k⟩
theorem c_lc (hc : X.calm = true) (hN : X.N.Nodup) (hi : PI X tg iter (tI G W ri)) (ok : BlkOk X.N X.env.scope scope own) (hT : tgIn T (own.map (·.2)) = true)
    (hg : ∀ (s : Shared) (H : Hp) (C : Addr) (cl : List (Str × Addr)) (fp : List Addr), PG (X.blk s H scope (compEnvC scope cl C X.env) fp) tg (gOf G T)) (ht : ∀ (s : Shared) (H : Hp) (C : Addr) (cl : List (Str × Addr)) (fp : List Addr), PTs (X.blk s H scope (compEnvC scope cl C X.env) fp) ifs (tB G FF rt))
    (he : ∀ (s : Shared) (H : Hp) (C : Addr) (cl : List (Str × Addr)) (fp : List Addr), PE (X.blk s H scope (compEnvC scope cl C X.env) fp) elt (tE G FF re)) (hs : ∀ x, foldedSetIterable iter X.env x = pure x) :
    PE X (.ListComp elt [⟨tg, iter, ifs, 0⟩] scope pos) (tE G W (lcR ri T (own.map (·.2)) rt re)) :=
  mkE fun pins s σ H w st K I sm a => thn ((pe_lc hc hN hi ok hg ht he hs).run pins s σ H _ I (lc_run hT sm a.keep)) fun u s1 ⟨v, H1, I1, rv, ys, w1, st1, p, e, s1', f, k⟩ => by
    obtain ⟨w', l, s', r⟩ := f.frz s1' rfl
    subst e
    exact ⟨_, H1, I1, rv, _, w', st1, s', r, (k : ∀ (w' : Wd) (H' : Hp), Le w1 st1.S.length w' st1.S.length → Sim G w' st1 σ H' → K (.lst ys) w' st1 H') w' H1 l s'⟩
/-- x = [..] on one line -/
theorem lc_asg {i : Nat} {y : Str} {py spos : Pos} {D' : Ends} (hc : X.calm = true) (hN : X.N.Nodup) (hy : X.N[i]? = some y) (hyl : X.env.scope.names.lookup y = some .local)
    (hsw : swapsWith (.ListComp elt [⟨tg, iter, ifs, 0⟩] scope pos) (some (.Name y py)) spos.line X.env = pure true) (hi : PI X tg iter (tI G W ri)) (ok : BlkOk X.N X.env.scope scope own) (hT : tgIn T (own.map (·.2)) = true)
    (hg : ∀ (s : Shared) (H : Hp) (C : Addr) (cl : List (Str × Addr)) (fp : List Addr), PG (X.blk s H scope (compEnvC scope cl C X.env) fp) tg (gOf G T)) (ht : ∀ (s : Shared) (H : Hp) (C : Addr) (cl : List (Str × Addr)) (fp : List Addr), PTs (X.blk s H scope (compEnvC scope cl C X.env) fp) ifs (tB G FF rt))
    (he : ∀ (s : Shared) (H : Hp) (C : Addr) (cl : List (Str × Addr)) (fp : List Addr), PE (X.blk s H scope (compEnvC scope cl C X.env) fp) elt (tE G FF re)) (hs : ∀ x, foldedSetIterable iter X.env x = pure x)
    {pins : List (Addr × Obj)} {s : Shared} {σ : L2.St} {H : Hp} {w : Wd} {st : Stt} {K : D → Wd → Stt → Hp → Prop} (I : Inv X pins σ H s) (sm : Sim G w st σ H) (a : Aft G W σ w st.S.length (lcR ri T (own.map (·.2)) rt re st) K)
    (hq : ∀ ys w1 st1 p H1, Sim G w1 st1 σ H1 → Fresh G w1 st1 σ H1 p (.lst ys) → K (.lst ys) w1 st1 H1 → D'.nx (σ.set i (some (.ref p))) H1) :
    wpAny (model X.prog X.w) X.A (exec (.Assign [.Name y py] (.ListComp elt [⟨tg, iter, ifs, 0⟩] scope pos) spos) X.env) (SP X pins D') X.xe s :=
  (ps_setLc hc hN hy hyl hsw hi ok hg ht he hs).run pins s σ H D' I (by
    obtain ⟨w0, st0, z1, z2⟩ := lc_run (W := W) hT sm a
    exact ⟨w0, st0, z1, z2.imp fun p w1 st1 H1 _ _ q J j D d => by
      obtain ⟨Wm, q1, q2⟩ := q J j D d
      refine ⟨Wm, q1, fun i' m H' w' => ?_⟩
      rcases q2 i' m H' w' with ⟨q3, ys, w5, st5, p5, e, s5, f5, k5⟩ | q3
      · refine .inl ⟨q3, ?_⟩
        cases e
        exact hq ys w5 st5 _ H' s5 f5 k5
      · exact .inr q3⟩)
end
end
end Tp

/-! Tp: the evaluator's words, as a printed derivation names them. -/
namespace Tp
open PySem PySem.Spec PyProof.Rows L2
/-- what a derivation may lean on -/
structure Bed (X : Cx) (G : Sig) (W : WX) (k : Nat) : Prop where
  hc : X.calm = true
  hN : X.N.Nodup
  hK : X.K = G.K
  hr : Room k X.A
  tk : Takes X W
theorem Bed.blk {X : Cx} {G : Sig} {W : WX} {k : Nat} (b : Bed X G W k) {s : Shared} {H : Hp} {scope : Scope} {cenv : Env} {fp : List Addr} : Bed (X.blk s H scope cenv fp) G FF k := ⟨b.hc, b.hN, b.hK, b.hr, takes0⟩
theorem Bed.hu {X : Cx} {G : Sig} {W : WX} {k : Nat} (b : Bed X G W k) : X.A.units + 1 < cLine := hu_of b.hr
def ExL.len : ExL → Nat
  | .nil => 0
  | .cons _ es => es.len + 1
theorem evL_len {C : Cl} : ∀ {es : ExL} {st st' : Stt} {ds : List D}, evL C es st = .ok ds st' → ds.length = es.len
  | .nil, st, st', ds, h => by
    unfold evL at h
    cases h; rfl
  | .cons e es, st, st', ds, h => by
    unfold evL at h
    obtain ⟨d, s1, h1, h⟩ := bnd_okR h
    obtain ⟨ds', s2, h2, h⟩ := bnd_okR h
    cases h
    simp [ExL.len, evL_len h2]
abbrev SzOk (es : ExL) : Prop := es.len ≤ 10000
theorem sz_ok {C : Cl} {es : ExL} (h : SzOk es) : ∀ st ds st', evL C es st = .ok ds st' → ds.length ≤ sizeLine := fun st ds st' e => by
  rw [evL_len e]
  have : (10000 : Nat) ≤ sizeLine := by rw [sizeLine_eq]; decide
  exact Nat.le_trans h this
section
variable {X : Cx} {G : Sig} {W : WX} {C : Cl} {k : Nat} {pa pb pt py : Expr} {a b t : Ex} {pos : Pos}
/-- as a value, as a test, as a new object -/
abbrev XV (X : Cx) (G : Sig) (W : WX) (C : Cl) (py : Expr) (e : Ex) : Prop := PE X py (tE G W (ev C e .v))
abbrev XT (X : Cx) (G : Sig) (W : WX) (C : Cl) (py : Expr) (e : Ex) : Prop := PT X py (tT G W (ev C e .t))
abbrev XW (X : Cx) (G : Sig) (W : WX) (C : Cl) (py : Expr) (e : Ex) : Prop := PW X py (tT G W (ev C e .t))
abbrev XO (X : Cx) (G : Sig) (W : WX) (C : Cl) (py : Expr) (e : Ex) : Prop := PE X py (tO G W (ev C e .o))
abbrev XL (X : Cx) (G : Sig) (W : WX) (C : Cl) (py : List Expr) (e : ExL) : Prop := PA X py (tA' G W (evL C e))
theorem vVar {i : Nat} {x : Str} (hN : X.N[i]? = some x) (hv : Vis X.env.scope x) (hd : (x == ("__debug__" : Str)) = false := by rfl) (hcd : (x == ("__classdict__" : Str)) = false := by rfl) : XV X G W C (.Name x pos) (.var i) := c_var hN hv hd hcd
theorem oVar {i : Nat} {x : Str} (hN : X.N[i]? = some x) (hv : Vis X.env.scope x) (hd : (x == ("__debug__" : Str)) = false := by rfl) (hcd : (x == ("__classdict__" : Str)) = false := by rfl) : XO X G W C (.Name x pos) (.var i) := c_mv hN hv hd hcd
theorem vInt {i : Int} {j : Nat} : XV X G W C (.Constant (.int i) j pos) (.cst (.int i)) := c_tC pe_int fun _ _ => .int i
theorem vNon {j : Nat} : XV X G W C (.Constant .none j pos) (.cst .non) := c_tC pe_non fun _ _ => .non
theorem vBl {j : Nat} {c : Bool} : XV X G W C (.Constant (.bool c) j pos) (.cst (.bl c)) := c_tC pe_bl fun _ _ => .bl c
theorem vStr {j : Nat} {x : Str} {z : List Nat} (hz : x = ⟨z.toArray⟩) : XV X G W C (.Constant (.str x) j pos) (.cst (.str z)) := by
  subst hz
  exact c_tC pe_str fun _ _ => .str z
theorem vGc {x : Str} {g : Nat} {d : D} {v : V} {u : Value} (hg : Gl X x) (hm : X.mg x = some u) (hv : cstV d = some v) (r : RelV v u) (hd : (x == ("__debug__" : Str)) = false := by rfl) : XV X G W C (.Name x pos) (.gc g d) := c_tC (pe_glob hg hm r hd) fun w N => cstV_rep hv w N
theorem lNil : XL X G W C [] .nil := a_nil
theorem lCons {es : List Expr} {el : ExL} (ha : XV X G W C pa a) (hr : XL X G W C es el) (hp : plainE pa = true := by rfl) : XL X G W C (pa :: es) (.cons a el) := a_cons ha hr (star1 hp)
theorem vTup {es : List Expr} {el : ExL} {x1 : Nat} (h : XL X G W C es el) (hl : SzOk el := by decide) : XV X G W C (.Tuple es x1 pos) (.tup el) := c_tup h (sz_ok hl)
theorem vLst {es : List Expr} {el : ExL} (h : XL X G W C es el) (hl : SzOk el := by decide) : XV X G W C (.List es pos) (.lst el) := c_lst h (sz_ok hl)
theorem oLst {es : List Expr} {el : ExL} (h : XL X G W C es el) (hl : SzOk el := by decide) : XO X G W C (.List es pos) (.lst el) := c_lstO h (sz_ok hl)
theorem vCel (h : XO X G W C py a) : XV X G W C py (.cel a) := c_cel h
theorem vBin {op : Operator} (ha : XV X G W C pa a) (hb : XV X G W C pb b) : XV X G W C (.BinOp pa op pb pos) (.bin op a b) := c_bin ha hb
theorem oBin {op : Operator} (ha : XV X G W C pa a) (hb : XV X G W C pb b) : XO X G W C (.BinOp pa op pb pos) (.bin op a b) := c_binO ha hb
theorem vNeg (ha : XV X G W C pa a) : XV X G W C (.UnaryOp .USub pa pos) (.neg a) := c_neg ha
theorem vNot (ha : XV X G W C pa a) : XV X G W C (.UnaryOp .Not pa pos) (.not a) := c_not ha
theorem tNot (ha : XT X G W C pa a) : XT X G W C (.UnaryOp .Not pa pos) (.not a) := c_notT ha
theorem vCmp {op : CmpOp} (ha : XV X G W C pa a) (hb : XV X G W C pb b) (h1 : behindInMarks op pb = false := by rfl) : XV X G W C (.Compare pa [op] [pb] pos) (.cmp op a b) := c_cmp ha hb h1
theorem tCmp {op : CmpOp} (ha : XV X G W C pa a) (hb : XV X G W C pb b) (h1 : behindInMarks op pb = false := by rfl) : XT X G W C (.Compare pa [op] [pb] pos) (.cmp op a b) := c_cmpT ha hb h1
theorem tAnd {es : List Expr} (ha : XT X G W C pa a) (hb : XW X G W C (.BoolOp .And (pb :: es) pos) b) : XW X G W C (.BoolOp .And (pa :: pb :: es) pos) (.and a b) := c_andT ha hb
theorem tAnd1 (ha : XT X G W C pa a) : XW X G W C (.BoolOp .And [pa] pos) a := pw_and1 ha
theorem tOr {es : List Expr} (ha : XT X G W C pa a) (hb : XW X G W C (.BoolOp .Or (pb :: es) pos) b) : XW X G W C (.BoolOp .Or (pa :: pb :: es) pos) (.or a b) := c_orT ha hb
theorem tOr1 (ha : XT X G W C pa a) : XW X G W C (.BoolOp .Or [pa] pos) a := pw_or1 ha
theorem tW (h : XW X G W C pa a) : XT X G W C pa a := h.pt
theorem vAnd {es : List Expr} (ha : XV X G W C pa a) (hb : XV X G W C (.BoolOp .And (pb :: es) pos) b) : XV X G W C (.BoolOp .And (pa :: pb :: es) pos) (.and a b) := c_and ha hb
theorem vOr {es : List Expr} (ha : XV X G W C pa a) (hb : XV X G W C (.BoolOp .Or (pb :: es) pos) b) : XV X G W C (.BoolOp .Or (pa :: pb :: es) pos) (.or a b) := c_or ha hb
theorem vOne {op : BoolOp} (ha : XV X G W C pa a) : XV X G W C (.BoolOp op [pa] pos) a := pe_one ha
theorem vIf (ht : XT X G W C pt t) (ha : XV X G W C pa a) (hb : XV X G W C pb b) : XV X G W C (.IfExp pt pa pb pos) (.ife t a b) := c_ife ht ha hb
theorem oIf (ht : XT X G W C pt t) (ha : XO X G W C pa a) (hb : XO X G W C pb b) : XO X G W C (.IfExp pt pa pb pos) (.ife t a b) := c_ifeO ht ha hb
theorem vSub (o : Bed X G W k) (ha : XV X G W C pa a) (hb : XV X G W C pb b) (hs : PlainIx pb := by intro _ _; rfl) : XV X G W C (.Subscript pa pb pos) (.sub a b) := c_sub o.hK ha hb hs
theorem vSubV {i : Nat} {x : Str} {p : Pos} (o : Bed X G W k) (hN : X.N[i]? = some x) (hv : Vis X.env.scope x) (hb : XV X G W C pb b) (hd : (x == ("__debug__" : Str)) = false := by rfl) (hcd : (x == ("__classdict__" : Str)) = false := by rfl) (hs : PlainIx pb := by intro _ _; rfl) :
    XV X G W C (.Subscript (.Name x p) pb pos) (.subV i b) := c_subV o.hK hN hv hd hcd hb hs
abbrev XP (X : Cx) (G : Sig) (W : WX) (C : Cl) (py : Option Expr) (e : ExO) : Prop := POk X G W py (evOp C e)
theorem pNone : XP X G W C none .none := p_none
theorem pSome (h : XV X G W C py a) : XP X G W C (some py) (.some a) := p_some h
theorem vSlc {lo hi : Option Expr} {l h : ExO} {p2 : Pos} (o : Bed X G W k) (ha : XV X G W C pa a) (hl : XP X G W C lo l) (hu : XP X G W C hi h) : XV X G W C (.Subscript pa (.Slice lo hi none p2) pos) (.slc a l h) := c_slc o.hK ha hl hu
theorem oSlc {lo hi : Option Expr} {l h : ExO} {p2 : Pos} (o : Bed X G W k) (ha : XV X G W C pa a) (hl : XP X G W C lo l) (hu : XP X G W C hi h) : XO X G W C (.Subscript pa (.Slice lo hi none p2) pos) (.slc a l h) := c_slcO o.hK ha hl hu
theorem vPick {a va b vb : List Nat} {kx : Ex} {ja jva jb jvb : Nat} {pa' pva pb' pvb dp : Pos} {sa sva sb svb : Str} (o : Bed X G W k) (h1 : sa = ⟨a.toArray⟩) (h2 : sva = ⟨va.toArray⟩) (h3 : sb = ⟨b.toArray⟩) (h4 : svb = ⟨vb.toArray⟩) (hk : XV X G W C pb kx) (hab : a ≠ b := by decide) (hs : PlainIx pb := by intro _ _; rfl) :
    XV X G W C (.Subscript (.Dict [some (.Constant (.str sa) ja pa'), some (.Constant (.str sb) jb pb')] [.Constant (.str sva) jva pva, .Constant (.str svb) jvb pvb] dp) pb pos) (.pick2 a va b vb kx) := by
  subst h1 h2 h3 h4
  exact c_pick2 o.hu hab hk hs
/-- the calls of the text's defs -/
abbrev DefC (X : Cx) (G : Sig) (C : Cl) (k f : Nat) (x : Str) (np : Nat) (ps : List Str) (fd : FuncData) : Prop := DefOk X G k f x (C.call f) (C.fr f) np ps fd
theorem vCall {f np : Nat} {x : Str} {p : Pos} {ps : List Str} {fd : FuncData} {e : Expr} {es : List Expr} {el : ExL} (o : Bed X G W k) (F : DefC X G C k f x np ps fd) (hg : Gl X x) (ha : XL X G W C (e :: es) el) (hl : el.len = np := by rfl) (hp : (e :: es).all plainE = true := by rfl) (hd : (x == ("__debug__" : Str)) = false := by rfl) :
    XV X G W C (.Call (.Name x p) (e :: es) [] pos) (.call f el) := c_call F o.hr hg hd o.tk ha hp fun _ _ _ h => (evL_len h).trans hl
theorem vCall0 {f : Nat} {x : Str} {p : Pos} {ps : List Str} {fd : FuncData} (o : Bed X G W k) (F : DefC X G C k f x 0 ps fd) (hg : Gl X x) (hd : (x == ("__debug__" : Str)) = false := by rfl) :
    XV X G W C (.Call (.Name x p) [] [] pos) (.call f .nil) := c_call0 F o.hr hg hd o.tk
theorem oCall {f np : Nat} {x : Str} {p : Pos} {ps : List Str} {fd : FuncData} {e : Expr} {es : List Expr} {el : ExL} (o : Bed X G W k) (F : DefC X G C k f x np ps fd) (hf : C.fr f = true) (hg : Gl X x) (ha : XL X G W C (e :: es) el) (hl : el.len = np := by rfl) (hp : (e :: es).all plainE = true := by rfl) (hd : (x == ("__debug__" : Str)) = false := by rfl) :
    XO X G W C (.Call (.Name x p) (e :: es) [] pos) (.call f el) := by
  have F' : DefOk X G k f x (C.call f) true np ps fd := hf ▸ F
  have := c_callO (W := W) (p := p) (pos := pos) F' o.hr hg hd o.tk ha hp fun _ _ _ h => (evL_len h).trans hl
  have e : ev C (.call f el) .o = callR (C.call f) (evL C el) := by
    funext st
    show (if C.fr f then _ else _) = _
    rw [if_pos hf]
  show PE X _ (tO G W (ev C (.call f el) .o))
  rw [e]
  exact this
theorem vCallK {f np : Nat} {x : Str} {p0 : Pos} {ps ks : List Str} {ki p : List Nat} {fd : FuncData} {kws : List Keyword} {el : ExL} (o : Bed X G W k) (F : DefC X G C k f x np ps fd) (hk : KwB X.K fd ps ks p) (hg : Gl X x) (ha : PK X kws (tA' G W (evL C el))) (hn : kws.map (·.arg) = ks.map some)
    (hl : el.len = ks.length) (hp : ∀ ds : List D, ds.length = ks.length → (Tp.pick ds p).length = np) (hd : (x == ("__debug__" : Str)) = false := by rfl) :
    XV X G W C (.Call (.Name x p0) [] kws pos) (.callK f el ki p) := c_callK F hk o.hr hg hd o.tk ha hn fun _ ds _ h => ⟨(evL_len h).trans hl, hp ds ((evL_len h).trans hl)⟩
theorem kNil : PK X [] (tA' G W (evL C .nil)) := k_nil
theorem kCons {nm : Option Str} {kpos : Pos} {kws : List Keyword} {el : ExL} (ha : XV X G W C pa a) (hr : PK X kws (tA' G W (evL C el))) : PK X (⟨nm, pa, kpos⟩ :: kws) (tA' G W (evL C (.cons a el))) := k_cons ha hr
theorem vBlt {bi : Bi} {x : Str} {p : Pos} {e : Expr} {es : List Expr} {el : ExL} (o : Bed X G W k) (hx : x = biName bi) (hg : Gl X x) (hm : BiOk X bi) (ha : XL X G W C (e :: es) el) (hp : (e :: es).all plainE = true := by rfl) :
    XV X G W C (.Call (.Name x p) (e :: es) [] pos) (.blt bi el) := by
  subst hx
  exact c_blt o.hK o.hc hg hm ha hp
theorem vMth {m : Mi} {x : Str} {apos : Pos} {e : Expr} {es : List Expr} {el : ExL} (hx : x = miName m) (ho : XV X G W C pa a) (ha : XL X G W C (e :: es) el) (hp : (e :: es).all plainE = true := by rfl) (hl : (e :: es).length < 30 := by decide) (hbase : attributeBase pa x X.env (eval pa X.env) = eval pa X.env := by rfl) (hline : (apos.endLine == pos.line) = true := by rfl) :
    XV X G W C (.Call (.Attribute pa x apos) (e :: es) [] pos) (.mth m a el) := by
  subst hx
  exact c_mth ho ha hp hl hbase hline
theorem vRpl {i j kk : Nat} {xi xj : Str} {z : Str} {j0 j1 : Nat} {p1 p2 c0 c1 q0 q1 apos : Pos} (hNi : X.N[i]? = some xi) (hvi : Vis X.env.scope xi) (hNj : X.N[j]? = some xj) (hvj : Vis X.env.scope xj) (hz : z = ⟨#[]⟩ := by rfl)
    (hdi : (xi == ("__debug__" : Str)) = false := by rfl) (hci : (xi == ("__classdict__" : Str)) = false := by rfl) (hdj : (xj == ("__debug__" : Str)) = false := by rfl) (hcj : (xj == ("__classdict__" : Str)) = false := by rfl) (hline : (apos.endLine == pos.line) = true := by rfl) :
    XV X G W C (.Call (.Attribute (.Name xi p1) "replace" apos) [.Subscript (.Name xj p2) (.UnaryOp .USub (.Constant (.int kk) j0 c0) q1) q0, .Constant (.str z) j1 c1] [] pos) (.rpl i j kk) := c_rpl hNi hvi hNj hvj hdi hci hdj hcj hz hline
theorem vIsi {t : Ty} {u : Str} {p p2 : Pos} (o : Bed X G W k) (hg : Gl X "isinstance") (hm : X.mg "isinstance" = none) (hu : u = Str.ofString (tyName t)) (hgu : Gl X u) (hmu : X.mg u = none) (ha : XV X G W C pa a) (hp : plainE pa = true := by rfl) :
    XV X G W C (.Call (.Name "isinstance" p) [pa, .Name u p2] [] pos) (.isi a t) := c_isi o.hK hg hm hu hgu hmu ha hp
abbrev XJ (X : Cx) (G : Sig) (W : WX) (C : Cl) (es : List Expr) (e : FsL) : Prop := JOk X G W es (evF C e)
theorem jNil : XJ X G W C [] .nil := .nil
theorem jLit {z : List Nat} {x : Str} {j : Nat} {p : Pos} {es : List Expr} {f : FsL} (hz : x = ⟨z.toArray⟩) (h : XJ X G W C es f) : XJ X G W C (.Constant (.str x) j p :: es) (.lit z f) := .lit hz h
theorem jVal {e : Expr} {p : Pos} {es : List Expr} {f : FsL} (he : XV X G W C e a) (h : XJ X G W C es f) : XJ X G W C (.FormattedValue e (-1) none p :: es) (.val a f) := .val he h
theorem vFst {v1 v2 : Expr} {rest : List Expr} {f : FsL} (h : XJ X G W C (v1 :: v2 :: rest) f) : XV X G W C (.JoinedStr (v1 :: v2 :: rest) pos) (.fst f) := c_fst h
theorem vFst1 {e : Expr} {p : Pos} (he : XV X G W C e a) : XV X G W C (.JoinedStr [.FormattedValue e (-1) none p] pos) (.fst (.val a .nil)) := c_fst1 he
/-- a test of a value: not one of the forms that a test reads by itself -/
theorem tFinV {r : Stt → R D} (h : PE X py (tE G W r)) (he : ∀ whole, isTrue py X.env whole = (do let v ← whole; standAt py.pos; holding [v] (truthy v)) := by intro _; rfl) : PT X py (tT G W fun st => fin .t (r st)) := ptE h he

/-! walks, comprehensions -/
abbrev XI (X : Cx) (G : Sig) (W : WX) (C : Cl) (tg py : Expr) (e : Itr) : Prop := PI X tg py (tI G W (evI C e))
theorem iEx {tg : Expr} (o : Bed X G W k) (h : XV X G W C py a) : XI X G W C tg py (.ex a) := c_itE o.hK h
theorem iR1 {tg : Expr} {p : Pos} (hg : Gl X "range") (hm : X.mg "range" = none) (ha : XV X G W C pa a) (hp : plainE pa = true := by rfl) : XI X G W C tg (.Call (.Name "range" p) [pa] [] pos) (.r1 a) := c_itR1 hg hm ha hp
theorem iR2 {tg : Expr} {p : Pos} (hg : Gl X "range") (hm : X.mg "range" = none) (ha : XV X G W C pa a) (hb : XV X G W C pb b) (hp : plainE pa = true := by rfl) (hp2 : plainE pb = true := by rfl) : XI X G W C tg (.Call (.Name "range" p) [pa, pb] [] pos) (.r2 a b) := c_itR2 hg hm ha hb hp hp2
abbrev XG (X : Cx) (G : Sig) (tg : Expr) (T : Tg) : Prop := PG X tg (gOf G T)
theorem gNm {i : Nat} {x : Str} (hN : X.N.Nodup) (hi : X.N[i]? = some x) (hx : Loc X.env.scope x) (hf : X.fn x = true ∨ X.env.scope.names.lookup x = some .local) : XG X G (.Name x pos) (.nm i) := pg_name hN hi hx hf
abbrev XGs (X : Cx) (es : List Expr) (is : List Nat) : Prop := PGs X es (gNs is)
theorem gsNil : XGs X [] [] := pgs_nil
theorem gsCons {i : Nat} {x : Str} {p : Pos} {es : List Expr} {is : List Nat} (hN : X.N.Nodup) (hi : X.N[i]? = some x) (hx : Loc X.env.scope x) (hf : X.fn x = true ∨ X.env.scope.names.lookup x = some .local) (h : XGs X es is)
    (hs : (assignEach (.Name x p :: es) X.env).map (·.2) = assign (.Name x p) X.env :: (assignEach es X.env).map (·.2) := by rfl) : XGs X (.Name x p :: es) (i :: is) := pgs_cons (pg_name hN hi hx hf) h hs
theorem gTp {es : List Expr} {is : List Nat} {kt : Nat} (o : Bed X G W k) (h : XGs X es is) (hn : (assignEach es X.env).length = is.length := by rfl) (hst : (assignEach es X.env).findIdx? (·.1) = none := by rfl) : XG X G (.Tuple es kt pos) (.tp is) := by
  show PG X _ (gTup G.K is.length (gNs is))
  rw [← o.hK]
  exact pg_tup o.hc h hn hst
abbrev XC (X : Cx) (G : Sig) (W : WX) (C : Cl) (ifs : List Expr) (e : ExO) : Prop := PTs X ifs (tB G W (evCo C e))
theorem cNone : XC X G W C [] .none := pts_tB0
theorem cSome (h : XT X G W C py a) : XC X G W C [py] (.some a) := pts_tB1 h
section
variable {elt tg iter : Expr} {ifs : List Expr} {scope : Scope} {own : List (Str × Nat)} {e : Ex} {T : Tg} {it : Itr} {c : ExO} {vs : List Nat}
theorem oLc (o : Bed X G W k) (hi : XI X G W C tg iter it) (ok : blkC X.N X.env.scope scope own = true) (hv : own.map (·.2) = vs) (hT : tgIn T vs = true)
    (hg : ∀ (s : Shared) (H : Hp) (C' : Addr) (cl : List (Str × Addr)) (fp : List Addr), Bed (X.blk s H scope (compEnvC scope cl C' X.env) fp) G FF k → XG (X.blk s H scope (compEnvC scope cl C' X.env) fp) G tg T) (ht : ∀ (s : Shared) (H : Hp) (C' : Addr) (cl : List (Str × Addr)) (fp : List Addr), Bed (X.blk s H scope (compEnvC scope cl C' X.env) fp) G FF k → XC (X.blk s H scope (compEnvC scope cl C' X.env) fp) G FF C ifs c)
    (he : ∀ (s : Shared) (H : Hp) (C' : Addr) (cl : List (Str × Addr)) (fp : List Addr), Bed (X.blk s H scope (compEnvC scope cl C' X.env) fp) G FF k → XV (X.blk s H scope (compEnvC scope cl C' X.env) fp) G FF C elt e) (hs : ∀ x, foldedSetIterable iter X.env x = pure x := by intro _; rfl) :
    XO X G W C (.ListComp elt [⟨tg, iter, ifs, 0⟩] scope pos) (.lc e T it c vs) := by
  subst hv
  exact c_lcO o.hc o.hN hi (blkOk_by ok) hT (fun s H C' cl fp => hg s H C' cl fp o.blk) (fun s H C' cl fp => ht s H C' cl fp o.blk) (fun s H C' cl fp => he s H C' cl fp o.blk) hs
theorem vLc (o : Bed X G W k) (hi : XI X G W C tg iter it) (ok : blkC X.N X.env.scope scope own = true) (hv : own.map (·.2) = vs) (hT : tgIn T vs = true)
    (hg : ∀ (s : Shared) (H : Hp) (C' : Addr) (cl : List (Str × Addr)) (fp : List Addr), Bed (X.blk s H scope (compEnvC scope cl C' X.env) fp) G FF k → XG (X.blk s H scope (compEnvC scope cl C' X.env) fp) G tg T) (ht : ∀ (s : Shared) (H : Hp) (C' : Addr) (cl : List (Str × Addr)) (fp : List Addr), Bed (X.blk s H scope (compEnvC scope cl C' X.env) fp) G FF k → XC (X.blk s H scope (compEnvC scope cl C' X.env) fp) G FF C ifs c)
    (he : ∀ (s : Shared) (H : Hp) (C' : Addr) (cl : List (Str × Addr)) (fp : List Addr), Bed (X.blk s H scope (compEnvC scope cl C' X.env) fp) G FF k → XV (X.blk s H scope (compEnvC scope cl C' X.env) fp) G FF C elt e) (hs : ∀ x, foldedSetIterable iter X.env x = pure x := by intro _; rfl) :
    XV X G W C (.ListComp elt [⟨tg, iter, ifs, 0⟩] scope pos) (.lc e T it c vs) := by
  subst hv
  exact c_lc o.hc o.hN hi (blkOk_by ok) hT (fun s H C' cl fp => hg s H C' cl fp o.blk) (fun s H C' cl fp => ht s H C' cl fp o.blk) (fun s H C' cl fp => he s H C' cl fp o.blk) hs
end
end
end Tp

/-! Tp: statements, defs. -/
namespace Tp
open PySem PySem.Spec PyProof.Rows L2
def AftS (G : Sig) (W : WX) (w : Wd) (N : Nat) (r : R Fl) (K : Fl → Wd → Stt → L2.St → Hp → Prop) : Prop :=
  match r with
  | .ok a st' => ∀ (w' : Wd) (H' : Hp) (σ' : L2.St), Le w N w' st'.S.length → Sim G w' st' σ' H' → K a w' st' σ' H'
  | .exc c d st' => ∀ (w' : Wd) (H' : Hp) (σ' : L2.St) (dx : Addr) (v : V), Le w N w' st'.S.length → Sim G w' st' σ' H' → H' dx = some (.xd [("value", v)]) → Rep G w' st'.S.length d v → W (.ref (G.cl c)) (some dx) σ' H'
  | .bad => False
section
variable {G : Sig} {W : WX} {w : Wd} {N : Nat} {α : Type} {st : Stt} {H : Hp} {σ : L2.St}
theorem AftS.bnd {r : R α} {f : α → Stt → R Fl} {K : Fl → Wd → Stt → L2.St → Hp → Prop} (h : AftS G W w N (r.bnd f) K) (σ : L2.St) :
    Aft G W σ w N r (fun a w1 st1 _ => Le w N w1 st1.S.length ∧ AftS G W w1 st1.S.length (f a st1) K) := by
  cases r with
  | ok a st1 =>
    intro w1 H1 l1 s1
    refine ⟨l1, ?_⟩
    have h : AftS G W w N (f a st1) K := h
    cases e : f a st1 with
    | ok b st2 => rw [e] at h; exact fun w2 H2 σ2 l2 s2 => h w2 H2 σ2 (l1.trans l2) s2
    | exc c d st2 => rw [e] at h; exact fun w2 H2 σ2 dx v l2 s2 hx r => h w2 H2 σ2 dx v (l1.trans l2) s2 hx r
    | bad => rw [e] at h; exact h
  | exc c d st1 => exact fun w1 H1 dx v l s hx r => h w1 H1 σ dx v l s hx r
  | bad => exact h
theorem AftS.imp {r : R Fl} {K K' : Fl → Wd → Stt → L2.St → Hp → Prop} (h : AftS G W w N r K) (f : ∀ a w1 st1 σ1 H1, Le w N w1 st1.S.length → Sim G w1 st1 σ1 H1 → K a w1 st1 σ1 H1 → K' a w1 st1 σ1 H1) : AftS G W w N r K' := by
  cases r with
  | ok a st1 => exact fun w1 H1 σ1 l s => f a w1 st1 σ1 H1 l s (h w1 H1 σ1 l s)
  | exc c d st1 => exact h
  | bad => exact h
theorem AftS.mono {w1 : Wd} {N1 : Nat} {r : R Fl} {K : Fl → Wd → Stt → L2.St → Hp → Prop} (h : AftS G W w N r K) (l : Le w N w1 N1) : AftS G W w1 N1 r K := by
  cases r with
  | ok a st1 => exact fun w2 H2 σ2 l2 s => h w2 H2 σ2 (l.trans l2) s
  | exc c d st1 => exact fun w2 H2 σ2 dx v l2 s hx r => h w2 H2 σ2 dx v (l.trans l2) s hx r
  | bad => exact h
theorem AftS.ok {a : Fl} {K : Fl → Wd → Stt → L2.St → Hp → Prop} (h : AftS G W w st.S.length (.ok a st) K) (s : Sim G w st σ H) : K a w st σ H := h w H σ (Le.refl _ _) s
theorem AftS.opt {o : Option α} {f : α → Stt → R Fl} {K : Fl → Wd → Stt → L2.St → Hp → Prop} (h : AftS G W w N ((optR o st).bnd f) K) : ∃ a, o = some a ∧ AftS G W w N (f a st) K := by
  cases o with
  | none => exact h.elim
  | some a => exact ⟨a, rfl, h⟩
theorem Sim.drop (s : Sim G w st σ H) : Sim G w ⟨[], st.S⟩ [] H where
  B := s.B
  P := s.P
  BP := s.BP
  len := rfl
  val := fun i d h => by simp at h
  own := fun i o h => by simp at h
  live := fun k o h => by
    cases k with
    | s i => exact (liveO_s0 h).elim
    | c n => exact s.live (.c n) o h
  inj := fun k k' o o' h h' e => by
    cases k with
    | s i => exact (liveO_s0 h).elim
    | c n =>
      cases k' with
      | s i => exact (liveO_s0 h').elim
      | c m => exact s.inj (.c n) (.c m) o o' h h' e
  fz := s.fz
theorem Fresh.drop {p : Addr} {o : O} (f : Fresh G w st σ H p o) : Fresh G w ⟨[], st.S⟩ [] H p o :=
  ⟨f.at_, f.B, f.P, fun k o' h => by
    cases k with
    | s i => exact (liveO_s0 h).elim
    | c n => exact f.ne (.c n) o' h, f.lv⟩
end
/-- what a return tells -/
def RtRep (G : Sig) (fr : Bool) (w : Wd) (S : List O) (d : D) (H : Hp) (v : V) : Prop :=
  if fr = true then ∃ p o, v = .ref p ∧ d.toO = some o ∧ o.frz = some d ∧ Fresh G w ⟨[], S⟩ [] H p o else Rep G w S.length d v
def flK (G : Sig) (fr : Bool) (D : Ends) : Fl → Wd → Stt → L2.St → Hp → Prop := fun fl w' st' σ' H' => match fl with
  | .nx => D.nx σ' H'
  | .bk => D.bk σ' H'
  | .ct => D.ct σ' H'
  | .rt d => ∀ v, RtRep G fr w' st'.S d H' v → D.rt v H'
def tS (G : Sig) (W : WX) (fr : Bool) (r : Stt → R Fl) : TS := fun D σ H => ∃ w st, Sim G w st σ H ∧ AftS G W w st.S.length (r st) (flK G fr D)
section
variable {X : Cx} {G : Sig} {W : WX} {C : Cl} {k : Nat} {pa pb pt py : Expr} {a b t : Ex} {pos : Pos} {fr : Bool} {s : Stmt} {ss : List Stmt}
abbrev SS (X : Cx) (G : Sig) (W : WX) (C : Cl) (fr : Bool) (s : Stmt) (m : Stm) : Prop := PS X s (tS G W fr (evS C m))
abbrev SL (X : Cx) (G : Sig) (W : WX) (C : Cl) (fr : Bool) (s : List Stmt) (m : StmL) : Prop := PSs X s (tS G W fr (evSs C m))
theorem PS_imp {tt tt' : TS} (h : PS X s tt) (f : ∀ D σ H, tt' D σ H → tt D σ H) : PS X s tt' := ⟨fun pins s0 σ H D I q => h.run pins s0 σ H D I (f D σ H q)⟩
theorem PSs_imp {tt tt' : TS} (h : PSs X ss tt) (f : ∀ D σ H, tt' D σ H → tt D σ H) : PSs X ss tt' := ⟨fun pins s0 σ H D I q => h.run pins s0 σ H D I (f D σ H q)⟩
theorem sNil : SL X G W C fr [] .nil := PSs_imp pss_nil fun D σ H ⟨w, st, sm, a⟩ => AftS.ok a sm
theorem sCons {m : Stm} {r : StmL} (h1 : SS X G W C fr s m) (h2 : SL X G W C fr ss r) : SL X G W C fr (s :: ss) (.cons m r) := PSs_imp (pss_cons h1 h2) fun D σ H ⟨w, st, sm, a⟩ => by
  refine ⟨w, st, sm, ?_⟩
  have a : AftS G W w st.S.length (match evS C m st with
    | .ok .nx st => evSs C r st
    | x => x) (flK G fr D) := a
  cases e : evS C m st with
  | bad => rw [e] at a; exact a
  | exc c d st1 => rw [e] at a; exact a
  | ok fl st1 =>
    rw [e] at a
    cases fl with
    | nx =>
      intro w1 H1 σ1 l1 s1
      exact ⟨w1, st1, s1, AftS.mono a l1⟩
    | bk => exact a
    | ct => exact a
    | rt d => exact a
theorem sKill {is : List Nat} {r : StmL} (h : SL X G W C fr ss r) : SL X G W C fr ss (.kill is r) := PSs_imp h fun D σ H ⟨w, st, sm, a⟩ => ⟨w, _, sm.forgets is, a⟩
theorem sOne {m : Stm} (h : SS X G W C fr s m) : SL X G W C fr [s] (.cons m .nil) := sCons h sNil
theorem sPass : SS X G W C fr (.Pass pos) .pass := PS_imp ps_pass fun D σ H ⟨w, st, sm, a⟩ => AftS.ok a sm
theorem sBrk : SS X G W C fr (.Break pos) .brk := PS_imp ps_break fun D σ H ⟨w, st, sm, a⟩ => AftS.ok a sm
theorem sCont : SS X G W C fr (.Continue pos) .cont := PS_imp ps_continue fun D σ H ⟨w, st, sm, a⟩ => AftS.ok a sm
theorem sDoc {x : Str} {j : Nat} {pos' : Pos} : SS X G W C fr (.Expr (.Constant (.str x) j pos) pos') .pass := PS_imp ps_doc fun D σ H ⟨w, st, sm, a⟩ => AftS.ok a sm
theorem sNever : SS X G W C fr s .never := PS_imp ps_never fun D σ H ⟨w, st, sm, a⟩ => a.elim
theorem sNevers {r : StmL} : SL X G W C fr ss (.cons .never r) := PSs_imp pss_never fun D σ H ⟨w, st, sm, a⟩ => a.elim
theorem sExpr (h : XV X G W C py a) (hs : swapsWith py none pos.line X.env = pure false := by rfl) : SS X G W C fr (.Expr py pos) (.expr a) := PS_imp (ps_expr h hs) fun D σ H ⟨w, st, sm, a⟩ =>
  ⟨w, st, sm, (a.bnd σ).imp fun d w1 st1 H1 _ s1 k v _ => k.2.ok s1⟩
theorem sRet (h : XV X G W C py a) : SS X G W C false (.Return (some py) pos) (.ret a) := PS_imp (ps_ret h) fun D σ H ⟨w, st, sm, a⟩ =>
  ⟨w, st, sm, (a.bnd σ).imp fun d w1 st1 H1 _ s1 k v rp => k.2.ok s1 v (by unfold RtRep; rw [if_neg (by decide)]; exact rp)⟩
theorem sRetO (h : XO X G W C py a) : SS X G W C true (.Return (some py) pos) (.retO a) := PS_imp (ps_ret h) fun D σ H ⟨w, st, sm, a⟩ =>
  ⟨w, st, sm, (a.bnd σ).imp fun d w1 st1 H1 _ s1 k p o e1 e2 f => k.2.ok s1 (.ref p) (by unfold RtRep; rw [if_pos rfl]; exact ⟨p, o, rfl, e1, e2, f.drop⟩)⟩
theorem sRetN : SS X G W C false (.Return none pos) .retN := PS_imp ps_retN fun D σ H ⟨w, st, sm, a⟩ => AftS.ok a sm .non (by unfold RtRep; rw [if_neg (by decide)]; exact .non)
theorem sIf {p q : List Stmt} {ma mb : StmL} (hc : XT X G W C pt t) (ha : SL X G W C fr p ma) (hb : SL X G W C fr q mb) : SS X G W C fr (.If pt p q pos) (.ife t ma mb) := PS_imp (ps_if hc ha hb) fun D σ H ⟨w, st, sm, a⟩ =>
  ⟨w, st, sm, (a.bnd σ).imp fun d w1 st1 H1 _ s1 k c e => by
    subst e
    cases c with
    | true => rw [if_pos rfl]; exact ⟨w1, st1, s1, k.2⟩
    | false => rw [if_neg (by decide)]; exact ⟨w1, st1, s1, k.2⟩⟩
theorem sAsg {tg : Expr} {T : Tg} (he : XV X G W C py a) (hg : XG X G tg T) (hs : swapsWithSole [tg] py pos.line X.env = pure false := by rfl) (hw : swappedStores [tg] py X.env = pure none := by rfl)
    (h1 : (assignEach [tg] X.env).map (·.2) = [assign tg X.env] := by rfl) : SS X G W C fr (.Assign [tg] py pos) (.asg T a) := PS_imp (ps_asg he hg hs hw h1) fun D σ H ⟨w, st, sm, a⟩ =>
  ⟨w, st, sm, (a.bnd σ).imp fun d w1 st1 H1 _ s1 k v rp => by
    obtain ⟨st2, e2, k⟩ := k.2.opt
    exact gOf_run s1 rp e2 fun σ2 s2 eS _ => k w1 H1 σ2 (by rw [← eS]; exact Le.refl _ _) s2⟩
theorem sAsgO {i : Nat} {x : Str} {p : Pos} (o : Bed X G W k) (he : XO X G W C py a) (hi : X.N[i]? = some x) (hx : Loc X.env.scope x) (hf : X.fn x = true ∨ X.env.scope.names.lookup x = some .local) (hs : swapsWithSole [.Name x p] py pos.line X.env = pure false := by rfl) (hw : swappedStores [.Name x p] py X.env = pure none := by rfl) :
    SS X G W C fr (.Assign [.Name x p] py pos) (.asgO i a) := PS_imp (ps_asg he (pg_name o.hN hi hx hf) hs hw) fun D σ H ⟨w, st, sm, a⟩ =>
  ⟨w, st, sm, (a.bnd σ).imp fun d w1 st1 H1 _ s1 k p o e1 e2 f => by
    obtain ⟨o', e3, k⟩ := k.2.opt
    rw [e1] at e3; cases e3
    exact k w1 H1 _ (Le.refl _ _) (s1.setOwn i f)⟩
/-- x = [..] on one line: the list goes straight into the slot -/
theorem sAsgLc {i : Nat} {x : Str} {py' : Pos} {elt tg iter : Expr} {ifs : List Expr} {scope : Scope} {own : List (Str × Nat)} {lpos : Pos} {e : Ex} {T : Tg} {it : Itr} {c : ExO} {vs : List Nat} (o : Bed X G W k) (hy : X.N[i]? = some x) (hyl : X.env.scope.names.lookup x = some .local)
    (hsw : swapsWith (.ListComp elt [⟨tg, iter, ifs, 0⟩] scope lpos) (some (.Name x py')) pos.line X.env = pure true)
    (hi : XI X G W C tg iter it) (ok : blkC X.N X.env.scope scope own = true) (hv : own.map (·.2) = vs) (hT : tgIn T vs = true)
    (hg : ∀ (s : Shared) (H : Hp) (C' : Addr) (cl : List (Str × Addr)) (fp : List Addr), Bed (X.blk s H scope (compEnvC scope cl C' X.env) fp) G FF k → XG (X.blk s H scope (compEnvC scope cl C' X.env) fp) G tg T) (ht : ∀ (s : Shared) (H : Hp) (C' : Addr) (cl : List (Str × Addr)) (fp : List Addr), Bed (X.blk s H scope (compEnvC scope cl C' X.env) fp) G FF k → XC (X.blk s H scope (compEnvC scope cl C' X.env) fp) G FF C ifs c)
    (he : ∀ (s : Shared) (H : Hp) (C' : Addr) (cl : List (Str × Addr)) (fp : List Addr), Bed (X.blk s H scope (compEnvC scope cl C' X.env) fp) G FF k → XV (X.blk s H scope (compEnvC scope cl C' X.env) fp) G FF C elt e) (hs : ∀ x, foldedSetIterable iter X.env x = pure x := by intro _; rfl) :
    SS X G W C fr (.Assign [.Name x py'] (.ListComp elt [⟨tg, iter, ifs, 0⟩] scope lpos) pos) (.asgO i (.lc e T it c vs)) := by
  subst hv
  refine ⟨fun pins s σ H D I ⟨w, st, sm, a⟩ => ?_⟩
  refine lc_asg (W := W) o.hc o.hN hy hyl hsw hi (blkOk_by ok) hT (fun s H C' cl fp => hg s H C' cl fp o.blk) (fun s H C' cl fp => ht s H C' cl fp o.blk) (fun s H C' cl fp => he s H C' cl fp o.blk) hs I sm (a.bnd σ) fun ys w1 st1 p H1 s1 f k => ?_
  obtain ⟨o', e3, k⟩ := k.2.opt
  cases e3
  exact k w1 H1 _ (Le.refl _ _) (s1.setOwn i f)
theorem sPar {i j : Nat} {x y : Str} {px py' pt' : Pos} {kt k2 pt2} (o : Bed X G W k) (ha : XV X G W C pa a) (hb : XV X G W C pb b) (hi : X.N[i]? = some x) (hj : X.N[j]? = some y) (hij : i ≠ j)
    (hx : X.env.scope.names.lookup x = some .local) (hy : X.env.scope.names.lookup y = some .local)
    (hw : swappedStores [.Tuple [.Name x px, .Name y py'] kt pt'] (.Tuple [pa, pb] k2 pt2) X.env = pure (some [x, y]) := by rfl)
    (hs : swapsWithSole [.Tuple [.Name x px, .Name y py'] kt pt'] (.Tuple [pa, pb] k2 pt2) pos.line X.env = pure false := by rfl) (hp : plainE pa = true := by rfl) (hp2 : plainE pb = true := by rfl) :
    SS X G W C fr (.Assign [.Tuple [.Name x px, .Name y py'] kt pt'] (.Tuple [pa, pb] k2 pt2) pos) (.par i j a b) := PS_imp (ps_par o.hc o.hN hi hj hij hx hy (a_cons ha (a_cons hb a_nil (star1 hp2)) (star1 hp)) hw hs) fun D σ H ⟨w, st, sm, a'⟩ => by
  refine ⟨w, st, sm, ?_⟩
  show Aft G W σ w st.S.length ((ev C a .v st).bnd fun d st => ((ev C b .v st).bnd fun e st => .ok [e] st).bnd fun ds st => .ok (d :: ds) st) _
  have a' : AftS G W w st.S.length ((ev C a .v st).bnd fun x st => (ev C b .v st).bnd fun y st => .ok .nx (setV j y (setV i x st))) _ := a'
  cases e : ev C a .v st with
  | bad => rw [e] at a'; exact a'.elim
  | exc c d st1 => rw [e] at a'; exact fun w1 H1 dx v l s hx r => a' w1 H1 σ dx v l s hx r
  | ok d st1 =>
    rw [e] at a'
    show Aft G W σ w st.S.length (((ev C b .v st1).bnd fun e st => .ok [e] st).bnd fun ds st => .ok (d :: ds) st) _
    have a' : AftS G W w st.S.length ((ev C b .v st1).bnd fun y st => .ok .nx (setV j y (setV i d st))) _ := a'
    cases e2 : ev C b .v st1 with
    | bad => rw [e2] at a'; exact a'.elim
    | exc c d st1 => rw [e2] at a'; exact fun w1 H1 dx v l s hx r => a' w1 H1 σ dx v l s hx r
    | ok d2 st2 =>
      rw [e2] at a'
      intro w1 H1 l1 s1 vs rps
      cases rps with
      | cons r1 r2 =>
        cases r2 with
        | cons r2 r3 =>
          cases r3
          exact ⟨_, _, rfl, a' w1 H1 _ l1 ((s1.setVal i r1).setVal j r2)⟩
theorem rd_int {i : Nat} {st st' : Stt} {x : Int} (h : rdVar i st = .ok (.int x) st') : st' = st := by
  unfold rdVar at h
  split at h
  · cases h; rfl
  · rename_i o e
    cases o <;> simp only [O.frz] at h <;> cases h
  · cases h
theorem sAug {i : Nat} {x : Str} {p : Pos} {op : Operator} {f : Int → Int → Int} (o : Bed X G W k) (hi : X.N[i]? = some x) (hx : Loc X.env.scope x) (he : XV X G W C py a) (hop : PIp X op (ipI f)) (hf : X.fn x = true ∨ X.env.scope.names.lookup x = some .local) (hb : ∀ i j, binD op (.int i) (.int j) = some (.int (f i j))) :
    SS X G W C fr (.AugAssign (.Name x p) op py pos) (.aug i op a) := PS_imp (ps_aug o.hN hi hx he hop hf) fun D σ H ⟨w, st, sm, a'⟩ => by
  have a' : AftS G W w st.S.length ((rdVar i st).bnd fun x st => (ev C a .v st).bnd fun y st => (match x, y with
    | .int _, .int _ => (optR (binD op x y) st).bnd fun z st => .ok .nx (setV i z st)
    | _, _ => .bad)) _ := a'
  cases e : rdVar i st with
  | bad => rw [e] at a'; exact a'.elim
  | exc c d st1 =>
    unfold rdVar at e
    split at e <;> try cases e
    split at e <;> cases e
  | ok d st1 =>
    obtain ⟨v, w', e1, l, s1, rp⟩ := sm.rd e
    rw [e] at a'
    rw [bnd_ok] at a'
    have a' := AftS.bnd (AftS.mono a' l) σ
    refine ⟨v, e1, w', st1, s1, a'.imp fun d2 w2 st2 H2 l2 s2 k u ru => ?_⟩
    have k := k.2
    split at k
    · rename_i x y
      rw [hb] at k
      cases rp; cases ru
      exact ⟨_, _, rfl, rfl, k w2 H2 _ (Le.refl _ _) (s2.setVal i (.int _))⟩
    · exact k.elim
theorem sAdd {i : Nat} {x : Str} {p : Pos} (o : Bed X G W k) (hi : X.N[i]? = some x) (hx : Loc X.env.scope x) (he : XV X G W C py a) (hf : X.fn x = true ∨ X.env.scope.names.lookup x = some .local) : SS X G W C fr (.AugAssign (.Name x p) .Add py pos) (.aug i .Add a) := sAug o hi hx he ip_add hf fun _ _ => rfl
theorem sMin {i : Nat} {x : Str} {p : Pos} (o : Bed X G W k) (hi : X.N[i]? = some x) (hx : Loc X.env.scope x) (he : XV X G W C py a) (hf : X.fn x = true ∨ X.env.scope.names.lookup x = some .local) : SS X G W C fr (.AugAssign (.Name x p) .Sub py pos) (.aug i .Sub a) := sAug o hi hx he ip_sub hf fun _ _ => rfl
theorem setIx_inv {ob ob' : O} {kx d : D} (h : setIx ob kx d = some ob') : ∃ xs j jj, ob = .lst xs ∧ kx = .int j ∧ L2.ixN xs.length j = some jj ∧ ob' = .lst (xs.set jj d) := by
  unfold setIx at h
  split at h
  · rename_i xs j
    obtain ⟨jj, ej, ej'⟩ := Option.map_eq_some_iff.mp h
    exact ⟨xs, j, jj, rfl, rfl, ej, ej'.symm⟩
  · cases h
/-- o[ix] = e -/
theorem sSet {po pi : Expr} {oo ix : Ex} {p : Pos} (he : XV X G W C py a) (ho : XV X G W C po oo) (hi : XV X G W C pi ix) (hs : swapsWithSole [.Subscript po pi p] py pos.line X.env = pure false := by rfl) (hw : swappedStores [.Subscript po pi p] py X.env = pure none := by rfl)
    (h1 : (assignEach [.Subscript po pi p] X.env).map (·.2) = [assign (.Subscript po pi p) X.env] := by rfl)
    (ha : ∀ v, assign (.Subscript po pi p) X.env v = (do
      let ov ← holding [v] (eval po X.env)
      let iv ← holding [v, ov] (eval pi X.env)
      standAt p
      holding [v, ov, iv] (setItem ov iv v)
      release [v, ov, iv] []) := by intro _; rfl) :
    SS X G W C fr (.Assign [.Subscript po pi p] py pos) (.seti oo ix a) := PS_imp (ps_asg he (pg_sub ho hi set_list ha) hs hw h1) fun D σ H ⟨w, st, sm, a'⟩ => by
  refine ⟨w, st, sm, (a'.bnd σ).imp fun d w1 st1 H1 l1 s1 k v rv => ?_⟩
  refine ⟨w1, st1, s1, (k.2.bnd σ).imp fun c w2 st2 H2 l2 s2 k u ru => ?_⟩
  refine ⟨w2, st2, s2, (k.2.bnd σ).imp fun kx w3 st3 H3 l3 s3 k z rz => ?_⟩
  obtain ⟨n, en, k⟩ := k.2.opt
  obtain ⟨ob, eo, k⟩ := k.opt
  obtain ⟨ob', eo', k⟩ := k.opt
  cases c <;> simp only [cellOf, Option.some.injEq, reduceCtorEq] at en
  subst en
  obtain ⟨xs, j, jj, z1, z2, ej, z3⟩ := setIx_inv eo'
  subst z1 z2 z3
  obtain ⟨hO, h2, h3⟩ := s3.cellAt eo rfl
  cases h3 with
  | lst hl rr =>
    rename_i vs
    cases rz
    have ru3 := ru.mono l3
    cases ru3
    refine ⟨w3.φ _, vs, j, jj, rfl, rfl, h2, by rw [← rr.length]; exact ej, ?_⟩
    have rv3 := (rv.mono l2).mono l3
    refine k _ _ σ ?_ (s3.setCell (ho' := .lst (vs.set jj v)) eo rfl (.lst (by rw [List.length_set]; exact hl) (Reps.set rv3 jj rr)))
    simpa using Le.refl _ _
theorem sWhl {body : List Stmt} {mb : StmL} (hp : PassesOwn (model X.prog X.w) X.A X.env X.xe) (hc : XT X G W C pt t) (hb : SL X G W C fr body mb) : SS X G W C fr (.While pt body [] pos) (.whl t mb) := PS_imp (ps_while hp hc hb) fun D σ H ⟨w, st, sm, a⟩ => by
  refine ⟨fun m σ H => ∃ w st, Sim G w st σ H ∧ AftS G W w st.S.length (whlL (fun st => ev C t .t st) (fun st => evSs C mb st) m st) (flK G fr D), ⟨C.fuel, w, st, sm, a⟩, ?_⟩
  rintro m σ H ⟨w, st, sm, a⟩
  cases m with
  | zero => exact a.elim
  | succ m =>
    refine ⟨w, st, sm, (a.bnd σ).imp fun d w1 st1 H1 _ s1 k c e => ?_⟩
    subst e
    have k := k.2
    cases c with
    | false => rw [if_neg (by decide)]; exact k.ok s1
    | true =>
      rw [if_pos rfl]
      refine ⟨fun σ H => ∃ w st, Sim G w st σ H ∧ AftS G W w st.S.length (whlL (fun st => ev C t .t st) (fun st => evSs C mb st) m st) (flK G fr D), fun σ' H' q => ⟨m, Nat.lt_succ_self _, q⟩, w1, st1, s1, ?_⟩
      have k : AftS G W w1 st1.S.length (match evSs C mb st1 with
        | .ok .nx st => whlL (fun st => ev C t .t st) (fun st => evSs C mb st) m st
        | .ok .ct st => whlL (fun st => ev C t .t st) (fun st => evSs C mb st) m st
        | .ok .bk st => .ok .nx st
        | r => r) (flK G fr D) := k
      cases e2 : evSs C mb st1 with
      | bad => rw [e2] at k; exact k
      | exc c d st2 => rw [e2] at k; exact k
      | ok fl st2 =>
        rw [e2] at k
        cases fl with
        | nx => exact fun w2 H2 σ2 l2 s2 => ⟨w2, st2, s2, AftS.mono k l2⟩
        | ct => exact fun w2 H2 σ2 l2 s2 => ⟨w2, st2, s2, AftS.mono k l2⟩
        | bk => exact k
        | rt d => exact k
theorem sFor {tg iter : Expr} {T : Tg} {it : Itr} {body : List Stmt} {mb : StmL} (o : Bed X G W k) (hp : PassesOwn (model X.prog X.w) X.A X.env X.xe) (hi : XI X G W C tg iter it) (hg : XG X G tg T) (hb : SL X G W C fr body mb) (hs : ∀ x, foldedSetIterable iter X.env x = pure x := by intro _; rfl) :
    SS X G W C fr (.For tg iter body [] pos) (.for_ T it mb) := PS_imp (ps_for hp o.hc hi hg hb hs) fun D σ H ⟨w, st, sm, a⟩ => by
  refine ⟨w, st, sm, (a.bnd σ).imp fun p w1 st1 H1 l1 s1 ⟨_, k⟩ J hJ => ?_⟩
  refine ⟨fun i m σ H => m = p.1.length - i ∧ i ≤ p.1.length ∧ ∃ w2 st2, Le w1 st1.S.length w2 st2.S.length ∧ Sim G w2 st2 σ H ∧ AftS G W w2 st2.S.length (forL (stays p.2) (fturn T (fun st => evSs C mb st)) (p.1.drop i) st2) (flK G fr D),
    ⟨p.1.length, by simp, Nat.zero_le _, w1, st1, Le.refl _ _, s1, by simpa using k⟩, ?_⟩
  rintro i m σ2 H2 ⟨rfl, hi, w2, st2, l2, s2, k⟩
  cases hd : p.1.drop i with
  | nil =>
    left
    rw [hd] at k
    unfold forL at k
    split at k
    · rename_i hch
      exact ⟨(hJ _ _ _ _ l2.lb s2 hch).2 i (List.drop_eq_nil_iff.mp hd), k.ok s2⟩
    · exact k.elim
  | cons d ds =>
    right
    rw [hd] at k
    have hlt : i < p.1.length := by
      rcases Nat.lt_or_ge i p.1.length with h | h
      · exact h
      · rw [List.drop_eq_nil_of_le h] at hd; cases hd
    have hget : p.1[i]? = some d := by
      have : (p.1.drop i)[0]? = some d := by rw [hd]; rfl
      simpa using this
    have hds : p.1.drop (i + 1) = ds := by
      rw [← List.tail_drop, hd]; rfl
    unfold forL at k
    split at k
    · rename_i hch
      obtain ⟨go, yl⟩ := (hJ _ _ _ _ l2.lb s2 hch).1 i d hget
      refine ⟨go, fun σ' H' => ∃ w3 st3, Le w1 st1.S.length w3 st3.S.length ∧ Sim G w3 st3 σ' H' ∧ AftS G W w3 st3.S.length (forL (stays p.2) (fturn T (fun st => evSs C mb st)) ds st3) (flK G fr D), fun σ' H' ⟨w3, st3, q1, q2, q3⟩ => ⟨p.1.length - (i + 1), by omega, rfl, hlt, w3, st3, q1, q2, by rw [hds]; exact q3⟩, fun x H3 y3 => ?_⟩
      obtain ⟨w3, l3, s3, rx⟩ := yl x H3 y3
      unfold fturn at k
      cases hbn : bindT T d st2 with
      | none => rw [hbn] at k; exact k.elim
      | some st5 =>
        rw [hbn] at k
        refine gOf_run s3 rx hbn fun σ5 s5 eS _ => ⟨w3, st5, s5, ?_⟩
        have l25 : Le w2 st2.S.length w3 st5.S.length := by rw [eS]; exact l3
        have k := AftS.mono k l25
        simp only at k
        cases e2 : evSs C mb st5 with
        | bad => rw [e2] at k; exact k
        | exc c d st6 => rw [e2] at k; exact k
        | ok fl st6 =>
          rw [e2] at k
          cases fl with
          | nx => exact fun w6 H6 σ6 l6 s6 => ⟨w6, st6, (l2.trans l25).trans l6, s6, AftS.mono k l6⟩
          | ct => exact fun w6 H6 σ6 l6 s6 => ⟨w6, st6, (l2.trans l25).trans l6, s6, AftS.mono k l6⟩
          | bk => exact k
          | rt d => exact k
    · exact k.elim

theorem tV (h : XV X G W C py a) (he : ∀ whole, isTrue py X.env whole = (do let v ← whole; standAt py.pos; holding [v] (truthy v)) := by intro _; rfl) (hf : ev C a .t = fun st => fin .t (ev C a .v st) := by rfl) : XT X G W C py a := by
  show PT X py (tT G W (ev C a .t))
  rw [hf]
  exact ptE h he
/-! ### defs -/
theorem fn_bot {P : Program} {w : World} {K : PySem.W.Frag} {mg : Str → Option Value} {base : Heap} {CX : CXT} {f : Addr} {fd : FuncData} {ps : List Str} {call : List D → List O → RF} {fr : Bool} {np : Nat} (h : ∀ ds S, call ds S = .bad := by intro _ _; rfl) : FnOk P w K mg base CX 0 f fd ps (spD G call fr np) := by
  have no : ∀ vs H Q E, spD G call fr np vs H Q E → False := fun vs H Q E ⟨_, _, _, _, _, _, z⟩ => by
    rw [h] at z; exact z
  exact ⟨fun vs H Q E z => (no vs H Q E z).elim, fun A outer s H args us vs Q E _ _ _ _ z => (no vs H Q E z).elim⟩
theorem start_sim {N : List Str} {np : Nat} {w : Wd} {S : List O} {H : Hp} {ds : List D} {vs : List V} (sm : Sim G w ⟨[], S⟩ [] H) (rps : Reps G w S.length ds vs) :
    Sim G w ⟨ds.map .val ++ List.replicate (N.length - ds.length) .no, S⟩ (L2.start N vs) H := by
  have hget : ∀ (i : Nat) (x : Sl), (ds.map Sl.val ++ List.replicate (N.length - ds.length) Sl.no)[i]? = some x → x = .no ∨ ∃ d, x = .val d ∧ ds[i]? = some d := fun i x e => by
    by_cases hi : i < ds.length
    · rw [List.getElem?_append_left (by simpa using hi), List.getElem?_map] at e
      obtain ⟨d, e1, e2⟩ := Option.map_eq_some_iff.mp e
      exact .inr ⟨d, e2.symm, e1⟩
    · rw [List.getElem?_append_right (by simpa using hi), List.getElem?_replicate] at e
      split at e <;> cases e
      exact .inl rfl
  have nolive : ∀ i o, liveO ⟨ds.map Sl.val ++ List.replicate (N.length - ds.length) Sl.no, S⟩ (.s i) = some o → False := fun i o e => by
    rw [liveO_s] at e
    split at e
    · rename_i o' h
      rcases hget i _ h with z | ⟨d, z, _⟩ <;> cases z
    · cases e
  refine ⟨sm.B, sm.P, sm.BP, ?_, fun i d e => ?_, fun i o e => ?_, fun k o e => ?_, fun k k' o o' e e' z => ?_, sm.fz⟩
  · unfold L2.start
    simp [rps.length]
  · rcases hget i _ e with z | ⟨d', z, hd⟩
    · cases z
    · cases z
      obtain ⟨v, ev, rv⟩ := rps.get hd
      refine ⟨v, ?_, rv⟩
      unfold L2.start
      rw [List.getElem?_append_left (by simpa using (List.getElem?_eq_some_iff.mp ev).1), List.getElem?_map, ev]; rfl
  · rcases hget i _ e with z | ⟨d', z, _⟩ <;> cases z
  · cases k with
    | s i => exact (nolive i o e).elim
    | c n => exact sm.live (.c n) o e
  · cases k with
    | s i => exact (nolive i o e).elim
    | c n =>
      cases k' with
      | s i => exact (nolive i o' e').elim
      | c m => exact sm.inj (.c n) (.c m) o o' e e' z
/-- a def's body keeps its promise -/
theorem def_end {f : FnD} {vs : List V} {Q : VK} {E : XK} (h : spD G (run C f) f.fr f.np vs H Q E) :
    tS G (fun cls d _ H => E cls d H) f.fr (evSs C f.body) { nx := fun _ H' => Q .non H', rt := Q } (L2.start f.ns vs) H := by
  obtain ⟨hl, w, S, ds, sm, rps, h⟩ := h
  have hds : ds.length = f.np := by rw [rps.length]; exact hl
  refine ⟨w, _, start_sim (N := f.ns) (np := f.np) sm rps, ?_⟩
  unfold run at h
  rw [if_pos hds] at h
  rw [hds]
  cases e : evSs C f.body ⟨ds.map .val ++ List.replicate (f.ns.length - f.np) .no, S⟩ with
  | bad => rw [e] at h; exact h
  | exc c d st1 =>
    rw [e] at h
    exact fun w1 H1 σ1 dx v l s hx r => h w1 H1 dx v l s.drop hx r
  | ok fl st1 =>
    rw [e] at h
    cases fl with
    | nx =>
      intro w1 H1 σ1 l1 s1
      simp only [finF] at h
      cases hf : f.fr with
      | true => rw [hf, if_pos rfl] at h; exact h.elim
      | false =>
        rw [hf, if_neg (by decide)] at h
        exact h w1 H1 .non l1 s1.drop .non
    | bk => exact h.elim
    | ct => exact h.elim
    | rt d => exact fun w1 H1 σ1 l1 s1 v rv => h w1 H1 v l1 s1.drop rv
end
end Tp

/-! Tp: the law's own promise. -/
namespace Tp
open PySem PySem.Spec PyProof.Rows L2
def spLaw (K : PySem.W.Frag) : Sp := fun vs H Q _ => ∃ (a : Addr) (ns : List Int), vs = [.ref a] ∧ SqL K H a (ns.map V.int) ∧ ns.length ≤ 63 ∧ ∀ H', Q (.bl true) H'
theorem reps_ints {G : Sig} {w : Wd} {N : Nat} : ∀ ns : List Int, Reps G w N (ns.map D.int) (ns.map V.int)
  | [] => .nil
  | n :: ns => .cons (.int n) (reps_ints ns)
theorem sp_law {G : Sig} {K : PySem.W.Frag} {call : List D → List O → RF} (hG : K = G.K) (hp : ∀ ns : List Int, ns.length ≤ 63 → ∃ S', call [.ro (ns.map .int)] [] = .ok (.bl true) S') (vs : List V) (H : Hp) (Q : VK) (E : XK) (h : spLaw K vs H Q E) : spD G call false 1 vs H Q E := by
  obtain ⟨a, ns, rfl, hS, hl, q⟩ := h
  obtain ⟨S', e⟩ := hp ns hl
  refine ⟨rfl, ⟨H, fun _ => none, fun _ => 0⟩, [], [.ro (ns.map .int)], ⟨fun _ _ h => h, fun _ _ h => (nomatch h), fun _ _ _ => rfl, rfl, fun i d h => by simp at h, fun i o h => by simp at h, fun k o h => ?_, fun k k' o o' h _ _ => ?_, fun n d h => by simp at h⟩, .cons (.ro (hG ▸ hS) ?_ (reps_ints ns)) .nil, ?_⟩
  · cases k with
    | s i => exact (liveO_s0 h).elim
    | c n => simp [liveO_c] at h
  · cases k with
    | s i => exact (liveO_s0 h).elim
    | c n => simp [liveO_c] at h
  · rw [List.length_map]
    exact Nat.le_trans hl (by rw [sizeLine_eq]; decide)
  · rw [e]
    intro w' H' v _ _ rp
    rw [if_neg (by decide)] at rp
    cases rp
    exact q H'
theorem walk_law {l : PySem.W.OpenLaw} {k : Nat} {x : Str} {q : Program} {loose : List Str} {XP : (Str → Option Value) → Heap → Prop} {YP : World → Heap → Prop} {d : DefRec} {K : Params → PySem.W.Frag} (hn : l.most = some 63) (hdf : d.params.defaults = []) (hk : Room k callerA)
    (hY : ∀ (w : World) (h : Heap), YP w h → (K w.params).In h)
    (F : ∀ (w : World) (mg : Str → Option Value) (fa : Addr) (h : Heap), (K w.params).In h → h.Ns mainGlobals mg → mg d.name = some (.ref fa) →
      ∃ fd : FuncData, (∀ (s : Shared) (u : Value), BindsTo s fd ⟨[u], []⟩ [(x, u)]) ∧ ∀ base : Heap, (K w.params).In base → base.Ns mainGlobals mg → FnOk l.prog w (K w.params) mg base (L2.CX l.prog w) k fa fd [x] (spLaw (K w.params))) :
    PySem.W.WalkO q loose XP YP l.row.toRowW d [] (fun f vs => PySem.call f vs) :=
  L2.walk_of (n := 63) (k := k) (x := x) (CX := fun w => L2.CX l.prog w) (sp := fun w => spLaw (K w.params)) hn (by decide) hdf hk hY F (fun _ _ a ns hl _ hS => ⟨a, ns, rfl, hS, hl, fun _ => rfl⟩) fun _ _ _ _ _ h => by
    obtain ⟨_, _, _, _, _, _, _, _, _, _, _, _, z⟩ := h
    exact z.elim
end Tp

/-! Tp: the evaluator's equations, for simp. -/
namespace Tp
open PySem
/-- nobody looks inside a -/
structure Bx {α : Sort u} (a : α) : Type
/-- .. of what follows -/
def R.bn {α β : Type} (r : R α) (f : α → Stt → R β) (_ : Bx f := ⟨⟩) : R β := r.bnd f
@[simp] theorem bn_ok {α β : Type} (a : α) (s : Stt) (f : α → Stt → R β) (b : Bx f) : (R.ok a s).bn f b = f a s := id rfl
@[simp] theorem bn_exc {α β : Type} (c : Nat) (d : D) (s : Stt) (f : α → Stt → R β) (b : Bx f) : (R.exc c d s).bn f b = .exc c d s := id rfl
@[simp] theorem bn_bad {α β : Type} (f : α → Stt → R β) (b : Bx f) : (R.bad : R α).bn f b = .bad := id rfl
/-- a branch -/
def br {α : Type} (x : D) (A B : R α) (_ : Bx A := ⟨⟩) (_ : Bx B := ⟨⟩) : R α := match x with
  | .bl c => if c = true then A else B
  | _ => .bad
@[simp] theorem br_bl {α : Type} (c : Bool) (A B : R α) (a : Bx A) (b : Bx B) : br (.bl c) A B a b = if c = true then A else B := id rfl
def intR (x : D) (f : Int → R D) (_ : Bx f := ⟨⟩) : R D := match x with
  | .int i => f i
  | _ => .bad
@[simp] theorem intR_int (i : Int) (f : Int → R D) (b : Bx f) : intR (.int i) f b = f i := id rfl
def strR {α : Type} (x : D) (f : List Nat → R α) (_ : Bx f := ⟨⟩) : R α := match x with
  | .str s => f s
  | _ => .bad
@[simp] theorem strR_str {α : Type} (s : List Nat) (f : List Nat → R α) (b : Bx f) : strR (.str s) f b = f s := id rfl
@[simp] theorem toR_ok (σ : List Sl) (d : D) (S : List O) : toR σ (.ok d S) = .ok d ⟨σ, S⟩ := id rfl
section
variable {C : Cl} {st : Stt}
@[simp] theorem fin_v (r : R D) : fin .v r = r := id rfl
@[simp] theorem fin_t_ok (c : Bool) (st : Stt) : fin .t (.ok (.bl c) st) = .ok (.bl c) st := id rfl
@[simp] theorem fin_t_exc (c : Nat) (d : D) (st : Stt) : fin .t (.exc c d st) = .exc c d st := id rfl
@[simp] theorem fin_t_bad : fin .t .bad = .bad := id rfl
@[simp] theorem fin_t_bnd {α : Type} (r : R α) (f : α → Stt → R D) (b : Bx f) : fin .t (r.bn f b) = r.bn fun a st => fin .t (f a st) := by cases r <;> rfl
@[simp] theorem fin_t_ite (p : Prop) [Decidable p] (A B : R D) : fin .t (if p then A else B) = if p then fin .t A else fin .t B := by split <;> rfl
@[simp] theorem bnd_ite {α β : Type} (p : Prop) [Decidable p] (A B : R α) (f : α → Stt → R β) (b : Bx f) : (if p then A else B).bn f b = if p then A.bn f b else B.bn f b := by split <;> rfl
@[simp] theorem bnd_bnd {α β γ : Type} (r : R α) (f : α → Stt → R β) (g : β → Stt → R γ) (b : Bx f) (c : Bx g) : (r.bn f b).bn g c = r.bn fun a st => (f a st).bn g := by cases r <;> rfl
@[simp] theorem fino_v (r : R D) : fino .v r = r := id rfl
@[simp] theorem fino_o (r : R D) : fino .o r = r := id rfl
@[simp] theorem ev_var_v (i : Nat) : ev C (.var i) .v st = rdVar i st := id rfl
@[simp] theorem ev_var_t (i : Nat) : ev C (.var i) .t st = fin .t (rdVar i st) := id rfl
@[simp] theorem ev_var_o (i : Nat) : ev C (.var i) .o st = mvVar i st := id rfl
@[simp] theorem ev_cst (d : D) (m : Md) : ev C (.cst d) m st = fin m (.ok d st) := id rfl
@[simp] theorem ev_gc (g : Nat) (d : D) (m : Md) : ev C (.gc g d) m st = fin m (.ok d st) := id rfl
@[simp] theorem ev_tup (es : ExL) (m : Md) : ev C (.tup es) m st = fin m ((evL C es st).bn fun ds st => .ok (.tup ds) st) := id rfl
@[simp] theorem ev_lst (es : ExL) (m : Md) : ev C (.lst es) m st = fino m ((evL C es st).bn fun ds st => .ok (.lst ds) st) := id rfl
@[simp] theorem ev_cel (e : Ex) (m : Md) : ev C (.cel e) m st = fin m ((ev C e .o st).bn fun d st => (optR d.toO st).bn fun o st => .ok (.cell st.S.length) ⟨st.σ, st.S ++ [o]⟩) := id rfl
@[simp] theorem ev_bin_v (op : Operator) (a b : Ex) : ev C (.bin op a b) .v st = (ev C a .v st).bn fun x st => (ev C b .v st).bn fun y st => optR (binA op x y) st := id rfl
@[simp] theorem ev_bin_o (op : Operator) (a b : Ex) : ev C (.bin op a b) .o st = (ev C a .v st).bn fun x st => (ev C b .v st).bn fun y st => optR (binL op x y) st := id rfl
@[simp] theorem ev_neg (a : Ex) (m : Md) : ev C (.neg a) m st = fin m ((ev C a .v st).bn fun x st => intR x fun i => .ok (.int (-i)) st) := by
  show fin m ((ev C a .v st).bn _) = _
  congr 2
theorem not_eq (x : D) (st : Stt) : (match x with
    | .bl b => R.ok (D.bl (!b)) st
    | _ => .bad) = br x (.ok (.bl false) st) (.ok (.bl true) st) := by
  cases x <;> try rfl
  rename_i b; cases b <;> rfl
@[simp] theorem ev_not_v (a : Ex) : ev C (.not a) .v st = (ev C a .v st).bn fun x st => br x (.ok (.bl false) st) (.ok (.bl true) st) := by
  show (ev C a .v st).bnd _ = (ev C a .v st).bnd _
  congr 1; funext x st; exact not_eq x st
@[simp] theorem ev_not_t (a : Ex) : ev C (.not a) .t st = (ev C a .t st).bn fun x st => br x (.ok (.bl false) st) (.ok (.bl true) st) := by
  show (ev C a .t st).bnd _ = (ev C a .t st).bnd _
  congr 1; funext x st; exact not_eq x st
@[simp] theorem ev_cmp (op : CmpOp) (a b : Ex) (m : Md) : ev C (.cmp op a b) m st = fin m ((ev C a .v st).bn fun x st => (ev C b .v st).bn fun y st => optR (cmpD op x y) st) := id rfl
theorem and_eq (x : D) (st : Stt) (B : R D) : (match x with
    | .bl true => B
    | .bl false => R.ok (D.bl false) st
    | _ => .bad) = br x B (.ok (.bl false) st) := by
  cases x <;> try rfl
  rename_i b; cases b <;> rfl
theorem or_eq (x : D) (st : Stt) (B : R D) : (match x with
    | .bl true => R.ok (D.bl true) st
    | .bl false => B
    | _ => .bad) = br x (.ok (.bl true) st) B := by
  cases x <;> try rfl
  rename_i b; cases b <;> rfl
theorem if_eq {α : Type} (x : D) (A B : R α) : (match x with
    | .bl true => A
    | .bl false => B
    | _ => .bad) = br x A B := by
  cases x <;> try rfl
  rename_i b; cases b <;> rfl
@[simp] theorem ev_and_v (a b : Ex) : ev C (.and a b) .v st = (ev C a .v st).bn fun x st => br x (ev C b .v st) (.ok (.bl false) st) := by
  show (ev C a .v st).bnd _ = (ev C a .v st).bnd _
  congr 1; funext x st; exact and_eq x st _
@[simp] theorem ev_and_t (a b : Ex) : ev C (.and a b) .t st = (ev C a .t st).bn fun x st => br x (ev C b .t st) (.ok (.bl false) st) := by
  show (ev C a .t st).bnd _ = (ev C a .t st).bnd _
  congr 1; funext x st; exact and_eq x st _
@[simp] theorem ev_or_v (a b : Ex) : ev C (.or a b) .v st = (ev C a .v st).bn fun x st => br x (.ok (.bl true) st) (ev C b .v st) := by
  show (ev C a .v st).bnd _ = (ev C a .v st).bnd _
  congr 1; funext x st; exact or_eq x st _
@[simp] theorem ev_or_t (a b : Ex) : ev C (.or a b) .t st = (ev C a .t st).bn fun x st => br x (.ok (.bl true) st) (ev C b .t st) := by
  show (ev C a .t st).bnd _ = (ev C a .t st).bnd _
  congr 1; funext x st; exact or_eq x st _
@[simp] theorem ev_ife_v (t a b : Ex) : ev C (.ife t a b) .v st = (ev C t .t st).bn fun x st => br x (ev C a .v st) (ev C b .v st) := by
  show (ev C t .t st).bnd _ = (ev C t .t st).bnd _
  congr 1; funext x st; exact if_eq x _ _
@[simp] theorem ev_ife_o (t a b : Ex) : ev C (.ife t a b) .o st = (ev C t .t st).bn fun x st => br x (ev C a .o st) (ev C b .o st) := by
  show (ev C t .t st).bnd _ = (ev C t .t st).bnd _
  congr 1; funext x st; exact if_eq x _ _
@[simp] theorem ev_sub (a ix : Ex) (m : Md) : ev C (.sub a ix) m st = fin m ((ev C a .v st).bn fun x st => (ev C ix .v st).bn fun y st => optR (subD (vwOf st.S x) y) st) := id rfl
@[simp] theorem ev_subV (i : Nat) (ix : Ex) (m : Md) : ev C (.subV i ix) m st = fin m ((optR (pkVar i st) st).bn fun _ st => (ev C ix .v st).bn fun y st => (optR (pkVar i st) st).bn fun v st => optR (subD v y) st) := id rfl
@[simp] theorem ev_slc_v (a : Ex) (lo hi : ExO) : ev C (.slc a lo hi) .v st = (ev C a .v st).bn fun x st => (evOp C lo st).bn fun l st => (evOp C hi st).bn fun h st => optR (slcD (vwOf st.S x) l h) st := id rfl
@[simp] theorem ev_pick (a va b vb : List Nat) (k : Ex) (m : Md) : ev C (.pick2 a va b vb k) m st = fin m ((ev C k .v st).bn fun x st => strR x fun s => if s = a then .ok (.str va) st else if s = b then .ok (.str vb) st else .bad) := by
  show fin m ((ev C k .v st).bn _) = _
  congr 2
@[simp] theorem ev_call_v (f : Nat) (es : ExL) : ev C (.call f es) .v st = (evL C es st).bn fun ds st => toR st.σ (C.call f ds st.S) := id rfl
@[simp] theorem ev_call_t (f : Nat) (es : ExL) : ev C (.call f es) .t st = fin .t ((evL C es st).bn fun ds st => toR st.σ (C.call f ds st.S)) := id rfl
@[simp] theorem ev_callK_v (f : Nat) (es : ExL) (ks p : List Nat) : ev C (.callK f es ks p) .v st = (evL C es st).bn fun ds st => toR st.σ (C.call f (permD ds p) st.S) := id rfl
@[simp] theorem ev_blt (b : Bi) (es : ExL) (m : Md) : ev C (.blt b es) m st = fin m ((evL C es st).bn fun ds st => optR (biD st.S b ds) st) := id rfl
@[simp] theorem ev_mth (k : Mi) (a : Ex) (es : ExL) (m : Md) : ev C (.mth k a es) m st = fin m ((ev C a .v st).bn fun x st => strR x fun z => (evL C es st).bn fun ds st => optR (miD k z ds) st) := by
  show fin m ((ev C a .v st).bn _) = _
  congr 2
@[simp] theorem ev_rpl (i j k : Nat) (m : Md) : ev C (.rpl i j k) m st = fin m (optR (rplV i j k st) st) := id rfl
@[simp] theorem ev_isi (a : Ex) (t : Ty) (m : Md) : ev C (.isi a t) m st = fin m ((ev C a .v st).bn fun x st => optR ((tnOf st.S x).map fun n => .bl (subTy n t)) st) := id rfl
/-- comprehensions, closed -/
def lcB (C : Cl) (elt : Ex) (tg : Tg) (c : ExO) (own : List Nat) (ds : List D) (cs : List (Nat × O)) (st : Stt) : R (List D) := if ds.length ≤ LIM then mapL (stays cs) (turn tg own (fun st => evCo C c st) (fun st => ev C elt .v st)) ds ⟨wipe st.σ own, st.S⟩ else .bad
@[simp] theorem ev_lc (elt : Ex) (tg : Tg) (it : Itr) (c : ExO) (own : List Nat) (m : Md) : ev C (.lc elt tg it c own) m st = fino m ((evI C it st).bn fun p st => (lcB C elt tg c own p.1 p.2 st).bn fun ys st => .ok (.lst ys) st) := id rfl
@[simp] theorem ev_fst (es : FsL) (m : Md) : ev C (.fst es) m st = fin m (evF C es [] st) := id rfl
@[simp] theorem evL_nil : evL C .nil st = .ok [] st := id rfl
@[simp] theorem evL_cons (e : Ex) (es : ExL) : evL C (.cons e es) st = (ev C e .v st).bn fun d st => (evL C es st).bn fun ds st => .ok (d :: ds) st := id rfl
@[simp] theorem evOp_none : evOp C .none st = .ok none st := id rfl
@[simp] theorem evOp_some (e : Ex) : evOp C (.some e) st = (ev C e .v st).bn fun d st => optR (intO d) st := id rfl
@[simp] theorem intO_int (i : Int) : intO (.int i) = some (some i) := id rfl
@[simp] theorem evCo_none : evCo C .none st = .ok true st := id rfl
@[simp] theorem evI_ex (e : Ex) : evI C (.ex e) st = (ev C e .v st).bn fun d st => optR (itemsOf st.S d) st := id rfl
def rngR (x : D) (st : Stt) : R (List D × List (Nat × O)) := match x with
  | .int j => if small62 j then .ok (rangeL 0 j.toNat, []) st else .bad
  | _ => .bad
@[simp] theorem rngR_int (j : Int) (st : Stt) : rngR (.int j) st = if small62 j then .ok (rangeL 0 j.toNat, []) st else .bad := id rfl
@[simp] theorem evI_r1 (a : Ex) : evI C (.r1 a) st = (ev C a .v st).bn rngR := id rfl
@[simp] theorem evF_nil (acc : List Nat) : evF C .nil acc st = .ok (.str acc) st := id rfl
@[simp] theorem evF_lit (s : List Nat) (es : FsL) (acc : List Nat) (h : acc.length + s.length ≤ LIM) : evF C (.lit s es) acc st = evF C es (acc ++ s) st := if_pos h
def fR (C : Cl) (es : FsL) (acc : List Nat) (x : D) (st : Stt) : R D := match x with
  | .int i => if bits i < 1900 ∧ acc.length ≤ 100000 then evF C es (acc ++ intL i) st else .bad
  | .str s => if acc.length + s.length ≤ LIM then evF C es (acc ++ s) st else .bad
  | _ => .bad
@[simp] theorem fR_int (es : FsL) (acc : List Nat) (i : Int) (h : bits i < 1900) (h2 : acc.length ≤ 100000) : fR C es acc (.int i) st = evF C es (acc ++ intL i) st := if_pos ⟨h, h2⟩
@[simp] theorem fR_str (es : FsL) (acc : List Nat) (s : List Nat) (h : acc.length + s.length ≤ LIM) : fR C es acc (.str s) st = evF C es (acc ++ s) st := if_pos h
@[simp] theorem evF_val (e : Ex) (es : FsL) (acc : List Nat) : evF C (.val e es) acc st = (ev C e .v st).bn fun x st => fR C es acc x st := id rfl

/-! statements -/
/-- then -/
def thenR (r : R Fl) (f : Stt → R Fl) (_ : Bx f := ⟨⟩) : R Fl := match r with
  | .ok .nx st => f st
  | x => x
@[simp] theorem then_nx (st : Stt) (f : Stt → R Fl) (b : Bx f) : thenR (.ok .nx st) f b = f st := id rfl
@[simp] theorem then_rt (d : D) (st : Stt) (f : Stt → R Fl) (b : Bx f) : thenR (.ok (.rt d) st) f b = .ok (.rt d) st := id rfl
@[simp] theorem then_bk (st : Stt) (f : Stt → R Fl) (b : Bx f) : thenR (.ok .bk st) f b = .ok .bk st := id rfl
@[simp] theorem then_ct (st : Stt) (f : Stt → R Fl) (b : Bx f) : thenR (.ok .ct st) f b = .ok .ct st := id rfl
@[simp] theorem then_bad (f : Stt → R Fl) (b : Bx f) : thenR .bad f b = .bad := id rfl
@[simp] theorem then_ite (p : Prop) [Decidable p] (A B : R Fl) (f : Stt → R Fl) (b : Bx f) : thenR (if p then A else B) f b = if p then thenR A f b else thenR B f b := by split <;> rfl
@[simp] theorem evS_asg (tg : Tg) (e : Ex) : evS C (.asg tg e) st = (ev C e .v st).bn fun d st => (optR (bindT tg d st) st).bn fun st _ => .ok .nx st := id rfl
@[simp] theorem evS_asgO (i : Nat) (e : Ex) : evS C (.asgO i e) st = (ev C e .o st).bn fun d st => (optR d.toO st).bn fun o st => .ok .nx ⟨st.σ.set i (.own o), st.S⟩ := id rfl
@[simp] theorem evS_par (i j : Nat) (a b : Ex) : evS C (.par i j a b) st = (ev C a .v st).bn fun x st => (ev C b .v st).bn fun y st => .ok .nx (setV j y (setV i x st)) := id rfl
def augR (op : Operator) (i : Nat) (x y : D) (st : Stt) : R Fl := match x, y with
  | .int _, .int _ => (optR (binD op x y) st).bn fun z st => .ok .nx (setV i z st)
  | _, _ => .bad
@[simp] theorem augR_int (op : Operator) (i : Nat) (a b : Int) (st : Stt) : augR op i (.int a) (.int b) st = (optR (binD op (.int a) (.int b)) st).bn fun z st => .ok .nx (setV i z st) := id rfl
@[simp] theorem evS_aug (i : Nat) (op : Operator) (e : Ex) : evS C (.aug i op e) st = (rdVar i st).bn fun x st => (ev C e .v st).bn fun y st => augR op i x y st := id rfl
@[simp] theorem evS_seti (o ix e : Ex) : evS C (.seti o ix e) st = (ev C e .v st).bn fun d st => (ev C o .v st).bn fun c st => (ev C ix .v st).bn fun k st =>
    (optR (cellOf c) st).bn fun n st => (optR (st.S[n]?) st).bn fun ob st => (optR (setIx ob k d) st).bn fun ob' st => .ok .nx ⟨st.σ, st.S.set n ob'⟩ := rfl
@[simp] theorem evS_expr (e : Ex) : evS C (.expr e) st = (ev C e .v st).bn fun _ st => .ok .nx st := id rfl
@[simp] theorem evS_ret (e : Ex) : evS C (.ret e) st = (ev C e .v st).bn fun d st => .ok (.rt d) st := id rfl
@[simp] theorem evS_retO (e : Ex) : evS C (.retO e) st = (ev C e .o st).bn fun d st => .ok (.rt d) st := id rfl
@[simp] theorem evS_retN : evS C .retN st = .ok (.rt .non) st := id rfl
@[simp] theorem evS_ife (t : Ex) (a b : StmL) : evS C (.ife t a b) st = (ev C t .t st).bn fun x st => br x (evSs C a st) (evSs C b st) := by
  show (ev C t .t st).bnd _ = (ev C t .t st).bnd _
  congr 1; funext x st; exact if_eq x _ _
/-- loops, closed -/
def whlB (C : Cl) (t : Ex) (b : StmL) (n : Nat) (st : Stt) : R Fl := whlL (fun st => ev C t .t st) (fun st => evSs C b st) n st
def forB (C : Cl) (tg : Tg) (b : StmL) (ds : List D) (cs : List (Nat × O)) (st : Stt) : R Fl := forL (stays cs) (fturn tg (fun st => evSs C b st)) ds st
@[simp] theorem evS_whl (t : Ex) (b : StmL) : evS C (.whl t b) st = whlB C t b C.fuel st := id rfl
@[simp] theorem evS_for (tg : Tg) (it : Itr) (b : StmL) : evS C (.for_ tg it b) st = (evI C it st).bn fun p st => forB C tg b p.1 p.2 st := id rfl
@[simp] theorem evS_brk : evS C .brk st = .ok .bk st := id rfl
@[simp] theorem evS_cont : evS C .cont st = .ok .ct st := id rfl
@[simp] theorem evS_pass : evS C .pass st = .ok .nx st := id rfl
@[simp] theorem evS_never : evS C .never st = .bad := id rfl
@[simp] theorem evSs_nil : evSs C .nil st = .ok .nx st := id rfl
@[simp] theorem evSs_cons (s : Stm) (r : StmL) : evSs C (.cons s r) st = thenR (evS C s st) fun st => evSs C r st := by
  show (match evS C s st with
    | .ok .nx st => evSs C r st
    | x => x) = _
  cases evS C s st with
  | ok a st => cases a <;> rfl
  | exc c d st => rfl
  | bad => rfl
@[simp] theorem then_bnd {α : Type} (r : R α) (f : α → Stt → R Fl) (g : Stt → R Fl) (b : Bx f) (c : Bx g) : thenR (r.bn f b) g c = r.bn fun a st => thenR (f a st) g c := by cases r <;> rfl
@[simp] theorem finF_rt (fr : Bool) (d : D) (st : Stt) : finF fr (.ok (.rt d) st) = .ok d st.S := id rfl
@[simp] theorem finF_nx (st : Stt) : finF false (.ok .nx st) = .ok .non st.S := id rfl
@[simp] theorem finF_ite (fr : Bool) (p : Prop) [Decidable p] (A B : R Fl) : finF fr (if p then A else B) = if p then finF fr A else finF fr B := by split <;> rfl
end
/-! values -/
@[simp] theorem vw_lst (S : List O) (xs : List D) : vwOf S (.lst xs) = .lst xs := id rfl
@[simp] theorem vw_ro (S : List O) (xs : List D) : vwOf S (.ro xs) = .lst xs := id rfl
@[simp] theorem vw_tup (S : List O) (xs : List D) : vwOf S (.tup xs) = .tup xs := id rfl
@[simp] theorem vw_str (S : List O) (xs : List Nat) : vwOf S (.str xs) = .str xs := id rfl
theorem vw_cell {S : List O} {n : Nat} {xs : List D} (h : S[n]? = some (.lst xs)) : vwOf S (.cell n) = .lst xs := by
  show (match S[n]? with
    | some o => o.vw
    | none => .no) = _
  rw [h]; rfl
@[simp] theorem binA_add (i j : Int) : binA .Add (.int i) (.int j) = some (.int (i + j)) := id rfl
@[simp] theorem binA_sub (i j : Int) : binA .Sub (.int i) (.int j) = some (.int (i - j)) := id rfl
@[simp] theorem binA_adds (a b : List Nat) (h : a.length + b.length ≤ LIM) : binA .Add (.str a) (.str b) = some (.str (a ++ b)) := if_pos h
@[simp] theorem binA_mul (i j : Int) : binA .Mult (.int i) (.int j) = if mulOk i j then some (.int (i * j)) else none := id rfl
@[simp] theorem binA_div (i j : Int) : binA .FloorDiv (.int i) (.int j) = if divOk j then some (.int (i / j)) else none := id rfl
@[simp] theorem binA_mod (i j : Int) : binA .Mod (.int i) (.int j) = if 0 < j then some (.int (i % j)) else none := id rfl
@[simp] theorem binA_pow (i j : Int) : binA .Pow (.int i) (.int j) = if powOk i j then some (.int (i ^ j.toNat)) else none := id rfl
@[simp] theorem binD_add (i j : Int) : binD .Add (.int i) (.int j) = some (.int (i + j)) := id rfl
@[simp] theorem binD_sub (i j : Int) : binD .Sub (.int i) (.int j) = some (.int (i - j)) := id rfl
@[simp] theorem cmp_lt (i j : Int) : cmpD .Lt (.int i) (.int j) = some (.bl (decide (i < j))) := id rfl
@[simp] theorem cmp_le (i j : Int) : cmpD .LtE (.int i) (.int j) = some (.bl (decide (i ≤ j))) := id rfl
@[simp] theorem cmp_gt (i j : Int) : cmpD .Gt (.int i) (.int j) = some (.bl (decide (j < i))) := id rfl
@[simp] theorem cmp_ge (i j : Int) : cmpD .GtE (.int i) (.int j) = some (.bl (decide (j ≤ i))) := id rfl
@[simp] theorem cmp_eq_i (i j : Int) : cmpD .Eq (.int i) (.int j) = some (.bl (decide (i = j))) := by
  show (if alike (.int i) (.int j) then some (D.bl (decide (D.int i = D.int j))) else none) = _
  simp [alike]
@[simp] theorem cmp_ne_i (i j : Int) : cmpD .NotEq (.int i) (.int j) = some (.bl (!decide (i = j))) := by
  show (if alike (.int i) (.int j) then some (D.bl (!decide (D.int i = D.int j))) else none) = _
  simp [alike]
@[simp] theorem cmp_eq_s (i j : List Nat) : cmpD .Eq (.str i) (.str j) = some (.bl (decide (i = j))) := by
  show (if alike (.str i) (.str j) then some (D.bl (decide (D.str i = D.str j))) else none) = _
  simp [alike]
@[simp] theorem cmp_ne_s (i j : List Nat) : cmpD .NotEq (.str i) (.str j) = some (.bl (!decide (i = j))) := by
  show (if alike (.str i) (.str j) then some (D.bl (!decide (D.str i = D.str j))) else none) = _
  simp [alike]
@[simp] theorem cmp_eq_b (i j : Bool) : cmpD .Eq (.bl i) (.bl j) = some (.bl (decide (i = j))) := by
  show (if alike (.bl i) (.bl j) then some (D.bl (decide (D.bl i = D.bl j))) else none) = _
  simp [alike]
@[simp] theorem cmp_is_non (d : D) : cmpD .Is d .non = some (.bl (decide (d = .non))) := by cases d <;> rfl
@[simp] theorem cmp_isnot_non (d : D) : cmpD .IsNot d .non = some (.bl (!decide (d = .non))) := by cases d <;> rfl
@[simp] theorem cmp_in (c : Nat) (s : List Nat) : cmpD .In (.str [c]) (.str s) = some (.bl (decide (c ∈ s))) := id rfl
@[simp] theorem cmp_notin (c : Nat) (s : List Nat) : cmpD .NotIn (.str [c]) (.str s) = some (.bl (!decide (c ∈ s))) := id rfl
@[simp] theorem sub_lst (xs : List D) (i : Int) : subD (.lst xs) (.int i) = L2.atI xs i := id rfl
@[simp] theorem sub_tup (xs : List D) (i : Int) : subD (.tup xs) (.int i) = L2.atI xs i := id rfl
@[simp] theorem sub_str (xs : List Nat) (i : Int) (h : xs.length ≤ LIM) : subD (.str xs) (.int i) = (L2.atI xs i).map fun c => .str [c] := if_pos h
@[simp] theorem slc_lst (xs : List D) (lo hi : Option Int) : slcD (.lst xs) lo hi = some (.lst (cut xs lo hi)) := id rfl
@[simp] theorem slc_str (xs : List Nat) (lo hi : Option Int) (h : xs.length ≤ LIM) : slcD (.str xs) lo hi = some (.str (cut xs lo hi)) := if_pos h
@[simp] theorem bindT_nm (i : Nat) (d : D) (st : Stt) : bindT (.nm i) d st = some (setV i d st) := id rfl
@[simp] theorem bindT_tp (is : List Nat) (ds : List D) (st : Stt) : bindT (.tp is) (.tup ds) st = setVs is ds st := id rfl
@[simp] theorem setVs_nil (st : Stt) : setVs [] [] st = some st := id rfl
@[simp] theorem setVs_cons (i : Nat) (is : List Nat) (d : D) (ds : List D) (st : Stt) : setVs (i :: is) (d :: ds) st = setVs is ds (setV i d st) := id rfl
@[simp] theorem setV_mk (i : Nat) (d : D) (l : List Sl) (S : List O) : setV i d ⟨l, S⟩ = ⟨l.set i (.val d), S⟩ := id rfl
@[simp] theorem rd_0v (d : D) (l : List Sl) (S : List O) : rdVar 0 ⟨.val d :: l, S⟩ = .ok d ⟨.val d :: l, S⟩ := id rfl
@[simp] theorem rd_1v (a : Sl) (d : D) (l : List Sl) (S : List O) : rdVar 1 ⟨a :: .val d :: l, S⟩ = .ok d ⟨a :: .val d :: l, S⟩ := id rfl
@[simp] theorem rd_2v (a b : Sl) (d : D) (l : List Sl) (S : List O) : rdVar 2 ⟨a :: b :: .val d :: l, S⟩ = .ok d ⟨a :: b :: .val d :: l, S⟩ := id rfl
@[simp] theorem rd_3v (a b c : Sl) (d : D) (l : List Sl) (S : List O) : rdVar 3 ⟨a :: b :: c :: .val d :: l, S⟩ = .ok d ⟨a :: b :: c :: .val d :: l, S⟩ := id rfl
@[simp] theorem rd_4v (a b c e : Sl) (d : D) (l : List Sl) (S : List O) : rdVar 4 ⟨a :: b :: c :: e :: .val d :: l, S⟩ = .ok d ⟨a :: b :: c :: e :: .val d :: l, S⟩ := id rfl
@[simp] theorem rd_5v (a b c e f : Sl) (d : D) (l : List Sl) (S : List O) : rdVar 5 ⟨a :: b :: c :: e :: f :: .val d :: l, S⟩ = .ok d ⟨a :: b :: c :: e :: f :: .val d :: l, S⟩ := id rfl
@[simp] theorem rd_6v (a b c e f g : Sl) (d : D) (l : List Sl) (S : List O) : rdVar 6 ⟨a :: b :: c :: e :: f :: g :: .val d :: l, S⟩ = .ok d ⟨a :: b :: c :: e :: f :: g :: .val d :: l, S⟩ := id rfl
@[simp] theorem rd_7v (a b c e f g h : Sl) (d : D) (l : List Sl) (S : List O) : rdVar 7 ⟨a :: b :: c :: e :: f :: g :: h :: .val d :: l, S⟩ = .ok d ⟨a :: b :: c :: e :: f :: g :: h :: .val d :: l, S⟩ := id rfl
@[simp] theorem rd_8v (a b c e f g h i : Sl) (d : D) (l : List Sl) (S : List O) : rdVar 8 ⟨a :: b :: c :: e :: f :: g :: h :: i :: .val d :: l, S⟩ = .ok d ⟨a :: b :: c :: e :: f :: g :: h :: i :: .val d :: l, S⟩ := id rfl
@[simp] theorem pk_0v (d : D) (l : List Sl) (S : List O) : pkVar 0 ⟨.val d :: l, S⟩ = some (vwOf S d) := id rfl
@[simp] theorem pk_1v (a : Sl) (d : D) (l : List Sl) (S : List O) : pkVar 1 ⟨a :: .val d :: l, S⟩ = some (vwOf S d) := id rfl
@[simp] theorem pk_2v (a b : Sl) (d : D) (l : List Sl) (S : List O) : pkVar 2 ⟨a :: b :: .val d :: l, S⟩ = some (vwOf S d) := id rfl
@[simp] theorem pk_3v (a b c : Sl) (d : D) (l : List Sl) (S : List O) : pkVar 3 ⟨a :: b :: c :: .val d :: l, S⟩ = some (vwOf S d) := id rfl
@[simp] theorem pk_4v (a b c e : Sl) (d : D) (l : List Sl) (S : List O) : pkVar 4 ⟨a :: b :: c :: e :: .val d :: l, S⟩ = some (vwOf S d) := id rfl
@[simp] theorem pk_5v (a b c e f : Sl) (d : D) (l : List Sl) (S : List O) : pkVar 5 ⟨a :: b :: c :: e :: f :: .val d :: l, S⟩ = some (vwOf S d) := id rfl
@[simp] theorem pk_6v (a b c e f g : Sl) (d : D) (l : List Sl) (S : List O) : pkVar 6 ⟨a :: b :: c :: e :: f :: g :: .val d :: l, S⟩ = some (vwOf S d) := id rfl
@[simp] theorem bi_len (S : List O) (d : D) : biD S .len [d] = (lenV (vwOf S d)).map fun (n : Nat) => D.int (n : Int) := id rfl
@[simp] theorem len_lst (xs : List D) : lenV (.lst xs) = some xs.length := id rfl
@[simp] theorem len_tup (xs : List D) : lenV (.tup xs) = some xs.length := id rfl
@[simp] theorem len_str (xs : List Nat) (h : xs.length ≤ LIM) : lenV (.str xs) = some xs.length := if_pos h
@[simp] theorem bi_abs (S : List O) (i : Int) : biD S .abs [.int i] = some (.int (if i < 0 then -i else i)) := id rfl
@[simp] theorem bi_inti (S : List O) (i : Int) : biD S .int [.int i] = some (.int i) := id rfl
@[simp] theorem bi_intb (S : List O) (b : Bool) : biD S .int [.bl b] = some (.int (if b then 1 else 0)) := id rfl
@[simp] theorem bi_ints (S : List O) (s : List Nat) : biD S .int [.str s] = (readI s).map .int := id rfl
@[simp] theorem bi_str (S : List O) (i : Int) (h : bits i < 1900) : biD S .str [.int i] = some (.str (intL i)) := if_pos h
@[simp] theorem bi_max (S : List O) (i j : Int) : biD S .max2 [.int i, .int j] = some (.int (if j > i then j else i)) := id rfl
@[simp] theorem bi_min (S : List O) (i j : Int) : biD S .min2 [.int i, .int j] = some (.int (if j < i then j else i)) := id rfl
@[simp] theorem bi_gcd (S : List O) (i j : Int) : biD S .gcd [.int i, .int j] = some (.int (Int.gcd i j)) := id rfl
@[simp] theorem bi_all (S : List O) (xs : List D) : biD S .all [.lst xs] = (boolsOf xs).map fun bs => .bl (bs.all id) := id rfl
theorem at_nat {α : Type} {xs : List α} {i : Nat} {x : α} (h : xs[i]? = some x) : L2.atI xs (i : Int) = some x := by
  have := (List.getElem?_eq_some_iff.mp h).1
  simp only [L2.atI, L2.ixN]
  rw [if_pos (by omega), if_pos (by omega)]
  simpa using h
@[simp] theorem at_0 {α : Type} (x : α) (xs : List α) : L2.atI (x :: xs) 0 = some x := at_nat (i := 0) rfl
@[simp] theorem at_1 {α : Type} (x y : α) (xs : List α) : L2.atI (x :: y :: xs) 1 = some y := at_nat (i := 1) rfl
@[simp] theorem at_2 {α : Type} (x y z : α) (xs : List α) : L2.atI (x :: y :: z :: xs) 2 = some z := at_nat (i := 2) rfl
@[simp] theorem cellOf_cell (n : Nat) : Tp.cellOf (.cell n) = some n := id rfl
@[simp] theorem setIx_0 (x : D) (xs : List D) (d : D) : setIx (.lst (x :: xs)) (.int 0) d = some (.lst (d :: xs)) := by
  have : L2.ixN (x :: xs).length 0 = some 0 := by
    simp only [L2.ixN]
    rw [if_pos (by omega), if_pos (by simp only [List.length_cons]; omega)]; rfl
  simp only [setIx, this]; rfl
@[simp] theorem setIx_1 (x y : D) (xs : List D) (d : D) : setIx (.lst (x :: y :: xs)) (.int 1) d = some (.lst (x :: d :: xs)) := by
  have : L2.ixN (x :: y :: xs).length 1 = some 1 := by
    simp only [L2.ixN]
    rw [if_pos (by omega), if_pos (by simp only [List.length_cons]; omega)]; rfl
  simp only [setIx, this]; rfl
@[simp] theorem setIx_2 (x y z : D) (xs : List D) (d : D) : setIx (.lst (x :: y :: z :: xs)) (.int 2) d = some (.lst (x :: y :: d :: xs)) := by
  have : L2.ixN (x :: y :: z :: xs).length 2 = some 2 := by
    simp only [L2.ixN]
    rw [if_pos (by omega), if_pos (by simp only [List.length_cons]; omega)]; rfl
  simp only [setIx, this]; rfl
theorem mulOk_l {i j : Int} (h : i.natAbs < 2 ^ 64) : mulOk i j = true := by unfold mulOk; exact decide_eq_true (.inl h)
theorem mulOk_r {i j : Int} (h : j.natAbs < 2 ^ 64) : mulOk i j = true := by unfold mulOk; exact decide_eq_true (.inr (.inl h))
theorem divOk_lt {j : Int} (h : 0 < j) (h2 : j.natAbs < 2 ^ 64) : divOk j = true := by
  unfold divOk
  refine decide_eq_true ⟨h, ?_⟩
  have : j.natAbs.log2 < 64 := (Nat.log2_lt (by omega)).mpr h2
  show j.natAbs.log2 < 9000
  omega
theorem powOk_lt {i j : Int} {N : Nat} (h : i.natAbs < 2 ^ N) (hN : 0 < N) (hj : 0 ≤ j) (hb : (N : Int) * j ≤ 100000000) : powOk i j = true := by
  unfold powOk
  refine decide_eq_true ⟨hj, ?_⟩
  have : bits i + 1 ≤ N := by
    show i.natAbs.log2 + 1 ≤ N
    by_cases h0 : i.natAbs = 0
    · rw [h0]; simp; omega
    · have := (Nat.log2_lt h0).mpr h
      omega
  have : ((bits i : Int) + 1) * j ≤ (N : Int) * j := Int.mul_le_mul_of_nonneg_right (by omega) hj
  omega
@[simp] theorem tn_tup (S : List O) (xs : List D) : tnOf S (.tup xs) = some .tuple := id rfl
@[simp] theorem tn_lst (S : List O) (xs : List D) : tnOf S (.lst xs) = some .list := id rfl
@[simp] theorem tn_str (S : List O) (xs : List Nat) : tnOf S (.str xs) = some .str := id rfl
@[simp] theorem tn_int (S : List O) (i : Int) : tnOf S (.int i) = some .int := id rfl
@[simp] theorem tn_bl (S : List O) (b : Bool) : tnOf S (.bl b) = some .bool := id rfl
/-! loops -/
theorem forL_ind {chk : Stt → Bool} {f : D → Stt → R Fl} (P : Nat → Stt → Prop) (hc : ∀ j st, P j st → chk st = true) : ∀ (ds : List D) (i : Nat) (hs : ∀ j d st, ds[j]? = some d → P (i + j) st → ∃ st', f d st = .ok .nx st' ∧ P (i + j + 1) st') (st : Stt), P i st → ∃ st', forL chk f ds st = .ok .nx st' ∧ P (i + ds.length) st'
  | [], i, _, st, h => ⟨st, by unfold forL; rw [if_pos (hc i st h)], h⟩
  | d :: ds, i, hs, st, h => by
    obtain ⟨st1, e, h1⟩ := hs 0 d st rfl h
    obtain ⟨st2, e2, h2⟩ := forL_ind P hc ds (i + 1) (fun j d' st' hd hp => by
      have := hs (j + 1) d' st' (by simpa using hd) (by rw [show i + (j + 1) = i + 1 + j by omega]; exact hp)
      rw [show i + 1 + j + 1 = i + (j + 1) + 1 by omega]
      exact this) st1 h1
    refine ⟨st2, ?_, by rw [List.length_cons, show i + (ds.length + 1) = i + 1 + ds.length by omega]; exact h2⟩
    unfold forL
    rw [if_pos (hc i st h), e]
    exact e2
theorem rangeL_get {lo : Int} {n j : Nat} {d : D} (h : (rangeL lo n)[j]? = some d) : d = .int (lo + j) ∧ j < n := by
  unfold rangeL at h
  rw [List.getElem?_map] at h
  obtain ⟨i, h1, h2⟩ := Option.map_eq_some_iff.mp h
  obtain ⟨h3, h4⟩ := List.getElem?_eq_some_iff.mp h1
  have h4' : j = i := by simpa using h4
  subst h4'
  exact ⟨h2.symm, by simpa using h3⟩
theorem rangeL_len (lo : Int) (n : Nat) : (rangeL lo n).length = n := by simp [rangeL]
/-- a for over items that no cell holds -/
theorem forB_ind {C : Cl} {tg : Tg} {b : StmL} (P : Nat → Stt → Prop) (ds : List D) (hs : ∀ j d st, ds[j]? = some d → P j st → ∃ st1 st2, bindT tg d st = some st1 ∧ evSs C b st1 = .ok .nx st2 ∧ P (j + 1) st2) (st : Stt) (h : P 0 st) :
    ∃ st', forB C tg b ds [] st = .ok .nx st' ∧ P ds.length st' := by
  obtain ⟨st', e, h'⟩ := forL_ind (chk := stays []) (f := fturn tg fun st => evSs C b st) P (fun _ _ _ => rfl) ds 0 (fun j d st hd hp => by
    rw [Nat.zero_add] at hp ⊢
    obtain ⟨st1, st2, e1, e2, h2⟩ := hs j d st hd hp
    exact ⟨st2, by unfold fturn; rw [e1]; exact e2, h2⟩) st h
  exact ⟨st', e, by rw [Nat.zero_add] at h'; exact h'⟩
/-- a while, a measure falling -/
theorem whlB_ind {C : Cl} {t : Ex} {b : StmL} (P : Nat → Stt → Prop) (Q : Stt → Prop) (hs : ∀ m st, P m st → (∃ st1, ev C t .t st = .ok (.bl false) st1 ∧ Q st1) ∨ (∃ st1 st2 m', ev C t .t st = .ok (.bl true) st1 ∧ evSs C b st1 = .ok .nx st2 ∧ m' < m ∧ P m' st2)) :
    ∀ (n m : Nat) (st : Stt), P m st → m < n → ∃ st', whlB C t b n st = .ok .nx st' ∧ Q st'
  | 0, m, st, _, h => absurd h (Nat.not_lt_zero _)
  | n + 1, m, st, hp, hn => by
    unfold whlB whlL
    rcases hs m st hp with ⟨st1, e, q⟩ | ⟨st1, st2, m', e, e2, hm, hp2⟩
    · rw [e]; exact ⟨st1, rfl, q⟩
    · obtain ⟨st', e3, q⟩ := whlB_ind P Q hs n m' st2 hp2 (by omega)
      refine ⟨st', ?_, q⟩
      rw [e]
      show (match evSs C b st1 with
        | .ok .nx st => whlL (fun st => ev C t .t st) (fun st => evSs C b st) n st
        | .ok .ct st => whlL (fun st => ev C t .t st) (fun st => evSs C b st) n st
        | .ok .bk st => .ok .nx st
        | r => r) = _
      rw [e2]
      exact e3
/-- a comprehension without test, whose elements leave the state as it is -/
theorem lcB_ind {C : Cl} {elt : Ex} {tg : Tg} {own : List Nat} {ds : List D} {st : Stt} (g : D → D) (hl : ds.length ≤ LIM) (hs : ∀ d, d ∈ ds → ∃ st2 st3, bindT tg d ⟨wipe st.σ own, st.S⟩ = some st2 ∧ ev C elt .v st2 = .ok (g d) st3 ∧ (⟨wipe st3.σ own, st3.S⟩ : Stt) = ⟨wipe st.σ own, st.S⟩) :
    lcB C elt tg .none own ds [] st = .ok (ds.map g) ⟨wipe st.σ own, st.S⟩ := by
  unfold lcB
  rw [if_pos hl]
  have : ∀ ds' : List D, (∀ d, d ∈ ds' → d ∈ ds) → mapL (stays []) (turn tg own (fun st => evCo C .none st) (fun st => ev C elt .v st)) ds' ⟨wipe st.σ own, st.S⟩ = .ok (ds'.map g) ⟨wipe st.σ own, st.S⟩ := by
    intro ds'
    induction ds' with
    | nil => intro _; rfl
    | cons d r ih =>
      intro h
      obtain ⟨st2, st3, e1, e2, e3⟩ := hs d (h d List.mem_cons_self)
      have e : turn tg own (fun st => evCo C .none st) (fun st => ev C elt .v st) d ⟨wipe st.σ own, st.S⟩ = .ok (some (g d)) ⟨wipe st.σ own, st.S⟩ := by
        unfold turn
        rw [e1]
        show ((R.ok true st2).bnd fun b st => if b = true then ((ev C elt .v st).bnd fun y st => R.ok (some y) ⟨wipe st.σ own, st.S⟩) else R.ok none ⟨wipe st.σ own, st.S⟩) = _
        rw [bnd_ok, if_pos rfl, e2, bnd_ok, e3]
      unfold mapL
      rw [if_pos (show stays [] _ = true from rfl), e]
      show (match mapL (stays []) (turn tg own (fun st => evCo C .none st) (fun st => ev C elt .v st)) r ⟨wipe st.σ own, st.S⟩ with
        | .ok ys st => R.ok ((some (g d)).toList ++ ys) st
        | _ => .bad) = _
      rw [ih fun d' hd' => h d' (List.mem_cons_of_mem _ hd')]
      rfl
  exact this ds fun _ h => h
theorem boolsOf_map {α : Type} (f : α → Bool) : ∀ l : List α, boolsOf (l.map fun c => .bl (f c)) = some (l.map f)
  | [] => rfl
  | c :: r => by
    show (boolsOf (r.map fun c => .bl (f c))).map (f c :: ·) = _
    rw [boolsOf_map f r]; rfl
/-- slices by natural places -/
theorem sIx_nat (n d i : Nat) : HT.sIx n d (some (i : Int)) = min i n := by
  exact HT.sIx_nat n d i
theorem cut_nat {α : Type} (xs : List α) (i j : Nat) : cut xs (some (i : Int)) (some (j : Int)) = (xs.drop i).take (j - i) := by
  unfold cut
  rw [sIx_nat, sIx_nat]
  by_cases h : i ≤ xs.length
  · rw [Nat.min_eq_left h]
    by_cases h2 : j ≤ xs.length
    · rw [Nat.min_eq_left h2]
    · rw [Nat.min_eq_right (by omega), List.take_of_length_le (by simp), List.take_of_length_le (by simp; omega)]
  · rw [Nat.min_eq_right (by omega : xs.length ≤ i), List.drop_length, List.drop_eq_nil_of_le (by omega : xs.length ≤ i)]
    simp
theorem cut_mid {α : Type} (a b c : List α) : cut (a ++ (b ++ c)) (some (a.length : Int)) (some ((a.length : Int) + (b.length : Int))) = b := by
  rw [show ((a.length : Int) + (b.length : Int)) = ((a.length + b.length : Nat) : Int) by omega, cut_nat]
  simp
theorem cut_from {α : Type} (xs : List α) (i : Nat) : cut xs (some (i : Int)) none = xs.drop i := by
  unfold cut
  rw [sIx_nat]
  have : HT.sIx xs.length xs.length none = xs.length := rfl
  rw [this]
  by_cases h : i ≤ xs.length
  · rw [Nat.min_eq_left h, List.take_of_length_le (by simp)]
  · rw [Nat.min_eq_right (by omega : xs.length ≤ i), List.drop_length, List.drop_eq_nil_of_le (by omega : xs.length ≤ i)]
    simp
theorem valL_snoc (l : List Nat) (c : Nat) : valL (l ++ [c]) = valL l * 10 + (c - 48) := by simp [valL, List.foldl_append]
theorem valL_num (n : Nat) : valL (TL.numL n) = n := by
  induction n using Nat.strongRecOn with
  | ind n ih =>
    by_cases h : n < 10
    · rw [TL.numL_lt h]; simp [valL]
    · rw [TL.numL_step (by omega), valL_snoc, ih (n / 10) (by omega)]; omega
theorem digs_num (n : Nat) : digs (TL.numL n) = true := by
  induction n using Nat.strongRecOn with
  | ind n ih =>
    by_cases h : n < 10
    · rw [TL.numL_lt h]; simp [digs]; omega
    · rw [TL.numL_step (by omega)]
      have := ih (n / 10) (by omega)
      unfold digs at this ⊢
      rw [List.all_append, this]
      simp; omega
theorem num_head (n : Nat) : ∃ c r, TL.numL n = c :: r ∧ 48 ≤ c ∧ c ≤ 57 ∧ (c = 48 → n = 0) := by
  induction n using Nat.strongRecOn with
  | ind n ih =>
    by_cases h : n < 10
    · exact ⟨48 + n, [], TL.numL_lt h, by omega, by omega, by omega⟩
    · obtain ⟨c, r, e, h1, h2, h3⟩ := ih (n / 10) (by omega)
      exact ⟨c, r ++ [48 + n % 10], by rw [TL.numL_step (by omega), e]; rfl, h1, h2, fun e => by have := h3 e; omega⟩
theorem readI_int {p : Int} (h : (intL p).length ≤ 600) : readI (intL p) = some p := by
  unfold intL at h ⊢
  obtain ⟨c, r, e, h1, h2, h3⟩ := num_head p.natAbs
  have hd := digs_num p.natAbs
  have hv := valL_num p.natAbs
  split
  · rename_i hp
    rw [if_pos hp] at h
    unfold readI
    have hl : (TL.numL p.natAbs).length ≤ 600 := by simp at h; omega
    show (if digs (TL.numL p.natAbs) = true ∧ TL.numL p.natAbs ≠ [] ∧ (TL.numL p.natAbs).length ≤ 600 then some (-(valL (TL.numL p.natAbs) : Int)) else none) = some p
    rw [if_pos ⟨hd, TL.numL_ne _, hl⟩, hv]
    congr 1; omega
  · rename_i hp
    rw [if_neg hp] at h
    rw [e] at h hd hv ⊢
    unfold readI
    split
    · rename_i r' q; simp at q; omega
    · rename_i r' q
      have hl : (c :: r).length ≤ 600 := h
      rw [if_pos ⟨hd, by simp, hl⟩, hv]
      congr 1; omega
@[simp] theorem stays_nil (st : Stt) : stays [] st = true := rfl
theorem run1 (C : Cl) (f : FnD) (ds : List D) (S : List O) (h : ds.length = f.np) : Tp.run C f ds S = finF f.fr (evSs C f.body ⟨ds.map .val ++ List.replicate (f.ns.length - f.np) .no, S⟩) := by
  unfold Tp.run
  rw [if_pos h]
end Tp


/-! The defs that law reaches, as terms of Tp (printed by tp.py). -/
namespace K85
open PySem Tp

/- is_number: 0 value -/
def bd_is_number : StmL := (.cons (.ret (.and (.cmp .GtE (.subV 0 (.cst (.int 1))) (.cst (.int 1))) (.cmp .Eq (.blt .gcd (.cons (.subV 0 (.cst (.int 0))) (.cons (.subV 0 (.cst (.int 1))) .nil))) (.cst (.int 1))))) .nil)
def fn_is_number : FnD := ⟨1, ["value"], bd_is_number, false⟩
/- whole_of: 0 text, 1 digits, 2 sign -/
def bd_whole_of : StmL := (.cons (.asg (.nm 1) (.ife (.mth .startswith (.var 0) (.cons (.cst (.str [45])) .nil)) (.slc (.var 0) (.some (.cst (.int 1))) .none) (.var 0))) (.cons (.ife (.or (.cmp .Eq (.var 1) (.cst (.str []))) (.or (.cmp .Gt (.blt .len (.cons (.var 1) .nil)) (.gc 0 (.int 9))) (.not (.blt .all (.cons (.lc (.cmp .In (.var 2) (.gc 0 (.str [48,49,50,51,52,53,54,55,56,57]))) (.nm 2) (.ex (.var 1)) .none [2]) .nil))))) (.cons (.ret (.cst .non)) .nil) .nil) (.cons (.ife (.and (.cmp .Eq (.subV 1 (.cst (.int 0))) (.cst (.str [48]))) (.cmp .NotEq (.var 0) (.cst (.str [48])))) (.cons (.ret (.cst .non)) .nil) .nil) (.cons (.ret (.blt .int (.cons (.var 0) .nil))) .nil))))
def fn_whole_of : FnD := ⟨1, ["text", "digits", "sign"], bd_whole_of, false⟩
/- number_of: 0 text, 1 above_text, 2 stroke, 3 below_text, 4 above, 5 below -/
def bd_number_of : StmL := (.cons (.asg (.tp [1,2,3]) (.mth .partition (.var 0) (.cons (.cst (.str [47])) .nil))) (.cons (.asg (.nm 4) (.call 1 (.cons (.var 1) .nil))) (.cons (.ife (.cmp .Is (.var 4) (.cst .non)) (.cons (.ret (.cst .non)) .nil) .nil) (.cons (.ife (.cmp .Eq (.var 2) (.cst (.str []))) (.cons (.ret (.tup (.cons (.var 4) (.cons (.cst (.int 1)) .nil)))) .nil) .nil) (.cons (.asg (.nm 5) (.call 1 (.cons (.var 3) .nil))) (.cons (.ife (.or (.cmp .Is (.var 5) (.cst .non)) (.or (.cmp .Lt (.var 5) (.cst (.int 2))) (.not (.call 0 (.cons (.tup (.cons (.var 4) (.cons (.var 5) .nil))) .nil))))) (.cons (.ret (.cst .non)) .nil) .nil) (.cons (.ret (.tup (.cons (.var 4) (.cons (.var 5) .nil)))) .nil)))))))
def fn_number_of : FnD := ⟨1, ["text", "above_text", "stroke", "below_text", "above", "below"], bd_number_of, false⟩
/- taken_at: 0 text, 1 at, 2 end, 3 word, 4 number, 5 inner -/
def bd_taken_at : StmL := (.cons (.asg (.nm 2) (.var 1)) (.cons (.whl (.and (.cmp .Lt (.var 2) (.blt .len (.cons (.var 0) .nil))) (.cmp .In (.subV 0 (.var 2)) (.cst (.str [45,47,48,49,50,51,52,53,54,55,56,57])))) (.cons (.aug 2 .Add (.cst (.int 1))) .nil)) (.cons (.asg (.nm 3) (.slc (.var 0) (.some (.var 1)) (.some (.var 2)))) (.cons (.ife (.cmp .NotEq (.slc (.var 0) (.some (.var 2)) (.some (.bin .Add (.var 2) (.cst (.int 1))))) (.cst (.str [91]))) (.cons (.ret (.ife (.cmp .Eq (.var 3) (.cst (.str [48]))) (.tup (.cons (.tup (.cons (.cst (.str [110,111,116,104,105,110,103])) .nil)) (.cons (.var 2) .nil))) (.cst .non))) .nil) .nil) (.cons (.asg (.nm 4) (.call 2 (.cons (.var 3) .nil))) (.cons (.ife (.cmp .Is (.var 4) (.cst .non)) (.cons (.ret (.cst .non)) .nil) .nil) (.cons (.asg (.nm 5) (.call 5 (.cons (.var 0) (.cons (.bin .Add (.var 2) (.cst (.int 1))) .nil)))) (.cons (.ife (.or (.cmp .Is (.var 5) (.cst .non)) (.cmp .NotEq (.slc (.var 0) (.some (.subV 5 (.cst (.int 1)))) (.some (.bin .Add (.subV 5 (.cst (.int 1))) (.cst (.int 1))))) (.cst (.str [93])))) (.cons (.ret (.cst .non)) .nil) .nil) (.cons (.ret (.tup (.cons (.tup (.cons (.cst (.str [116,97,107,101])) (.cons (.var 4) (.cons (.subV 5 (.cst (.int 0))) .nil)))) (.cons (.bin .Add (.subV 5 (.cst (.int 1))) (.cst (.int 1))) .nil)))) .nil)))))))))
def fn_taken_at : FnD := ⟨2, ["text", "at", "end", "word", "number", "inner"], bd_taken_at, false⟩
/- pair_at: 0 text, 1 at, 2 one, 3 end, 4 kind, 5 between, 6 other -/
def bd_pair_at : StmL := (.cons (.asg (.nm 2) (.call 5 (.cons (.var 0) (.cons (.var 1) .nil)))) (.cons (.ife (.cmp .Is (.var 2) (.cst .non)) (.cons (.ret (.cst .non)) .nil) .nil) (.cons (.asg (.nm 3) (.subV 2 (.cst (.int 1)))) (.cons (.asg (.tp [4,5]) (.ife (.cmp .Eq (.slc (.var 0) (.some (.var 3)) (.some (.bin .Add (.var 3) (.cst (.int 3))))) (.cst (.str [32,43,32]))) (.tup (.cons (.cst (.str [112,108,117,115])) (.cons (.cst (.str [32,43,32])) .nil))) (.tup (.cons (.cst (.str [116,105,109,101,115])) (.cons (.cst (.str [32])) .nil))))) (.cons (.ife (.cmp .NotEq (.slc (.var 0) (.some (.var 3)) (.some (.bin .Add (.var 3) (.blt .len (.cons (.var 5) .nil))))) (.var 5)) (.cons (.ret (.cst .non)) .nil) .nil) (.cons (.asg (.nm 6) (.call 5 (.cons (.var 0) (.cons (.bin .Add (.var 3) (.blt .len (.cons (.var 5) .nil))) .nil)))) (.cons (.ife (.or (.cmp .Is (.var 6) (.cst .non)) (.cmp .NotEq (.slc (.var 0) (.some (.subV 6 (.cst (.int 1)))) (.some (.bin .Add (.subV 6 (.cst (.int 1))) (.cst (.int 1))))) (.cst (.str [41])))) (.cons (.ret (.cst .non)) .nil) .nil) (.cons (.ret (.tup (.cons (.tup (.cons (.var 4) (.cons (.subV 2 (.cst (.int 0))) (.cons (.subV 6 (.cst (.int 0))) .nil)))) (.cons (.bin .Add (.subV 6 (.cst (.int 1))) (.cst (.int 1))) .nil)))) .nil))))))))
def fn_pair_at : FnD := ⟨2, ["text", "at", "one", "end", "kind", "between", "other"], bd_pair_at, false⟩
/- term_at: 0 text, 1 at, 2 sign -/
def bd_term_at : StmL := (.cons (.asg (.nm 2) (.slc (.var 0) (.some (.var 1)) (.some (.bin .Add (.var 1) (.cst (.int 1)))))) (.cons (.ife (.cmp .Eq (.var 2) (.cst (.str []))) (.cons (.ret (.cst .non)) .nil) .nil) (.cons (.ife (.cmp .Eq (.var 2) (.cst (.str [40]))) (.cons (.ret (.call 4 (.cons (.var 0) (.cons (.bin .Add (.var 1) (.cst (.int 1))) .nil)))) .nil) .nil) (.cons (.ife (.cmp .In (.var 2) (.gc 0 (.str [97,98,99,100,101,102,103,104,105,106,107,108,109,110,111,112,113,114,115,116,117,118,119,120,121,122]))) (.cons (.ret (.tup (.cons (.tup (.cons (.cst (.str [108,101,116,116,101,114])) (.cons (.var 2) .nil))) (.cons (.bin .Add (.var 1) (.cst (.int 1))) .nil)))) .nil) .nil) (.cons (.ret (.call 3 (.cons (.var 0) (.cons (.var 1) .nil)))) .nil)))))
def fn_term_at : FnD := ⟨2, ["text", "at", "sign"], bd_term_at, false⟩
/- read_term: 0 text, 1 found -/
def bd_read_term : StmL := (.cons (.asg (.nm 1) (.call 5 (.cons (.var 0) (.cons (.cst (.int 0)) .nil)))) (.cons (.ife (.or (.cmp .Is (.var 1) (.cst .non)) (.cmp .NotEq (.subV 1 (.cst (.int 1))) (.blt .len (.cons (.var 0) .nil)))) (.cons .never .nil) .nil) (.cons (.ret (.subV 1 (.cst (.int 0)))) .nil)))
def fn_read_term : FnD := ⟨1, ["text", "found"], bd_read_term, false⟩
/- show_number: 0 number, 1 above, 2 below -/
def bd_show_number : StmL := (.cons (.asg (.tp [1,2]) (.var 0)) (.cons (.ret (.ife (.cmp .Eq (.var 2) (.cst (.int 1))) (.fst (.val (.var 1) .nil)) (.fst (.val (.var 1) (.lit [47] (.val (.var 2) .nil)))))) .nil))
def fn_show_number : FnD := ⟨1, ["number", "above", "below"], bd_show_number, false⟩
/- show_term: 0 term, 1 kind, 2 between -/
def bd_show_term : StmL := (.cons (.asg (.nm 1) (.subV 0 (.cst (.int 0)))) (.cons (.ife (.cmp .Eq (.var 1) (.cst (.str [108,101,116,116,101,114]))) (.cons (.ret (.subV 0 (.cst (.int 1)))) .nil) .nil) (.cons (.ife (.cmp .Eq (.var 1) (.cst (.str [110,111,116,104,105,110,103]))) (.cons (.ret (.cst (.str [48]))) .nil) .nil) (.cons (.ife (.cmp .Eq (.var 1) (.cst (.str [116,97,107,101]))) (.cons (.ret (.bin .Add (.bin .Add (.bin .Add (.call 7 (.cons (.subV 0 (.cst (.int 1))) .nil)) (.cst (.str [91]))) (.call 8 (.cons (.subV 0 (.cst (.int 2))) .nil))) (.cst (.str [93])))) .nil) .nil) (.cons (.asg (.nm 2) (.ife (.cmp .Eq (.var 1) (.cst (.str [112,108,117,115]))) (.cst (.str [32,43,32])) (.cst (.str [32])))) (.cons (.ret (.bin .Add (.bin .Add (.bin .Add (.bin .Add (.cst (.str [40])) (.call 8 (.cons (.subV 0 (.cst (.int 1))) .nil))) (.var 2)) (.call 8 (.cons (.subV 0 (.cst (.int 2))) .nil))) (.cst (.str [41])))) .nil))))))
def fn_show_term : FnD := ⟨1, ["term", "kind", "between"], bd_show_term, false⟩
/- show_monomial: 0 monomial -/
def bd_show_monomial : StmL := (.cons (.ife (.isi (.var 0) .str) (.cons (.ret (.var 0)) .nil) .nil) (.cons (.ret (.bin .Add (.bin .Add (.bin .Add (.cst (.str [40])) (.call 9 (.cons (.subV 0 (.cst (.int 0))) .nil))) (.call 9 (.cons (.subV 0 (.cst (.int 1))) .nil))) (.cst (.str [41])))) .nil))
def fn_show_monomial : FnD := ⟨1, ["monomial"], bd_show_monomial, false⟩
/- _law_well: 0 _law_script, 1 _law_place, 2 _law_cell -/
def bd__law_well : StmL := (.cons (.asg (.nm 2) (.ife (.cmp .Lt (.var 1) (.blt .len (.cons (.var 0) .nil))) (.subV 0 (.var 1)) (.bin .Add (.bin .Mult (.var 1) (.cst (.int 7919))) (.bin .Mult (.blt .len (.cons (.var 0) .nil)) (.cst (.int 104729)))))) (.cons (.ret (.cel (.lst (.cons (.blt .max2 (.cons (.cst (.int 0)) (.cons (.bin .Sub (.blt .abs (.cons (.var 2) .nil)) (.bin .Pow (.cst (.int 10)) (.cst (.int 18)))) .nil))) (.cons (.bin .Mod (.blt .int (.cons (.bin .Add (.bin .Add (.bin .Mult (.var 2) (.cst (.int 48611))) (.bin .Mult (.var 1) (.cst (.int 6700417)))) (.cst (.int 31337))) .nil)) (.bin .Add (.bin .Pow (.cst (.int 10)) (.cst (.int 24))) (.cst (.int 7)))) (.cons (.cst (.int 0)) .nil)))))) .nil))
def fn__law_well : FnD := ⟨2, ["_law_script", "_law_place", "_law_cell"], bd__law_well, false⟩
/- _law_dip: 0 _law_well_here, 1 _law_many, 2 _law_drawn, 3 _law_mixed -/
def bd__law_dip : StmL := (.cons (.ife (.cmp .Gt (.subV 0 (.cst (.int 0))) (.cst (.int 0))) (.cons (.asg (.nm 2) (.bin .Mod (.blt .int (.cons (.subV 0 (.cst (.int 0))) .nil)) (.var 1))) (.cons (.seti (.var 0) (.cst (.int 0)) (.bin .FloorDiv (.subV 0 (.cst (.int 0))) (.var 1))) (.cons (.ret (.var 2)) .nil))) .nil) (.cons (.seti (.var 0) (.cst (.int 2)) (.bin .Add (.subV 0 (.cst (.int 2))) (.cst (.int 1)))) (.cons (.asg (.nm 3) (.bin .Mod (.bin .Pow (.blt .int (.cons (.bin .Add (.subV 0 (.cst (.int 1))) (.bin .Mult (.cst (.int 1000003)) (.subV 0 (.cst (.int 2))))) .nil)) (.cst (.int 3))) (.bin .Add (.bin .Pow (.cst (.int 10)) (.cst (.int 25))) (.cst (.int 13))))) (.cons (.asg (.nm 3) (.bin .Mod (.bin .Pow (.blt .int (.cons (.bin .Add (.var 3) (.bin .Mult (.cst (.int 77347)) (.subV 0 (.cst (.int 2))))) .nil)) (.cst (.int 2))) (.bin .Add (.bin .Pow (.cst (.int 10)) (.cst (.int 24))) (.cst (.int 7))))) (.cons (.ret (.bin .Mod (.blt .int (.cons (.bin .FloorDiv (.var 3) (.cst (.int 4096))) .nil)) (.var 1))) .nil)))))
def fn__law_dip : FnD := ⟨2, ["_law_well_here", "_law_many", "_law_drawn", "_law_mixed"], bd__law_dip, false⟩
/- _law_common: 0 _law_one, 1 _law_other -/
def bd__law_common : StmL := (.cons (.asg (.nm 0) (.blt .abs (.cons (.var 0) .nil))) (.cons (.whl (.cmp .Gt (.var 0) (.cst (.int 0))) (.cons (.par 0 1 (.bin .Mod (.blt .int (.cons (.var 1) .nil)) (.var 0)) (.var 0)) .nil)) (.cons (.ret (.var 1)) .nil)))
def fn__law_common : FnD := ⟨2, ["_law_one", "_law_other"], bd__law_common, false⟩
/- _law_pair: 0 _law_well_here, 1 _law_mode, 2 _law_above, 3 _law_below, 4 _law_share -/
def bd__law_pair : StmL := (.cons (.asg (.nm 1) (.call 11 (.cons (.var 0) (.cons (.cst (.int 6)) .nil)))) (.cons (.asg (.nm 2) (.ife (.cmp .Lt (.var 1) (.cst (.int 2))) (.var 1) (.bin .Add (.cst (.int 1)) (.call 11 (.cons (.var 0) (.cons (.sub (.lst (.cons (.cst (.int 9)) (.cons (.cst (.int 99)) (.cons (.cst (.int 9999)) .nil)))) (.bin .FloorDiv (.var 1) (.cst (.int 2)))) .nil)))))) (.cons (.asg (.nm 3) (.ife (.or (.cmp .Eq (.var 1) (.cst (.int 0))) (.cmp .Eq (.call 11 (.cons (.var 0) (.cons (.cst (.int 3)) .nil))) (.cst (.int 0)))) (.cst (.int 1)) (.bin .Add (.cst (.int 1)) (.call 11 (.cons (.var 0) (.cons (.sub (.lst (.cons (.cst (.int 9)) (.cons (.cst (.int 9999)) .nil))) (.call 11 (.cons (.var 0) (.cons (.cst (.int 2)) .nil)))) .nil)))))) (.cons (.ife (.cmp .Eq (.call 11 (.cons (.var 0) (.cons (.cst (.int 3)) .nil))) (.cst (.int 0))) (.cons (.asg (.nm 2) (.neg (.var 2))) .nil) .nil) (.cons (.asg (.nm 4) (.call 12 (.cons (.var 2) (.cons (.var 3) .nil)))) (.cons (.ret (.tup (.cons (.bin .FloorDiv (.var 2) (.var 4)) (.cons (.bin .FloorDiv (.var 3) (.var 4)) .nil)))) .nil))))))
def fn__law_pair : FnD := ⟨1, ["_law_well_here", "_law_mode", "_law_above", "_law_below", "_law_share"], bd__law_pair, false⟩
/- _law_said: 0 _law_pair_here -/
def bd__law_said : StmL := (.cons (.ret (.ife (.cmp .Eq (.subV 0 (.cst (.int 1))) (.cst (.int 1))) (.blt .str (.cons (.subV 0 (.cst (.int 0))) .nil)) (.bin .Add (.bin .Add (.blt .str (.cons (.subV 0 (.cst (.int 0))) .nil)) (.cst (.str [47]))) (.blt .str (.cons (.subV 0 (.cst (.int 1))) .nil))))) .nil)
def fn__law_said : FnD := ⟨1, ["_law_pair_here"], bd__law_said, false⟩
/- _law_term: 0 _law_well_here, 1 _law_room, 2 _law_deep, 3 _law_most, 4 _law_letters_here, 5 _law_mode, 6 _law_share, 7 _law_one, 8 _law_other -/
def bd__law_term : StmL := (.cons (.seti (.var 1) (.cst (.int 0)) (.bin .Sub (.subV 1 (.cst (.int 0))) (.cst (.int 1)))) (.cons (.asg (.nm 5) (.call 11 (.cons (.var 0) (.cons (.cst (.int 9)) .nil)))) (.cons (.ife (.and (.cmp .Gt (.var 2) (.cst (.int 1))) (.and (.cmp .GtE (.subV 1 (.cst (.int 0))) (.cst (.int 2))) (.cmp .Lt (.var 5) (.cst (.int 6))))) (.cons (.seti (.var 1) (.cst (.int 0)) (.bin .Sub (.subV 1 (.cst (.int 0))) (.cst (.int 1)))) (.cons (.asg (.nm 6) (.ife (.cmp .Lt (.var 5) (.cst (.int 3))) (.call 11 (.cons (.var 0) (.cons (.bin .Add (.var 3) (.cst (.int 1))) .nil))) (.var 3))) (.cons (.asg (.nm 7) (.call 15 (.cons (.var 0) (.cons (.var 1) (.cons (.bin .Sub (.var 2) (.cst (.int 1))) (.cons (.var 6) (.cons (.var 4) .nil))))))) (.cons (.seti (.var 1) (.cst (.int 0)) (.bin .Add (.subV 1 (.cst (.int 0))) (.cst (.int 1)))) (.cons (.asg (.nm 8) (.call 15 (.cons (.var 0) (.cons (.var 1) (.cons (.bin .Sub (.var 2) (.cst (.int 1))) (.cons (.ife (.cmp .Lt (.var 5) (.cst (.int 3))) (.bin .Sub (.var 3) (.var 6)) (.var 3)) (.cons (.var 4) .nil))))))) (.cons (.ret (.tup (.cons (.ife (.cmp .Lt (.var 5) (.cst (.int 3))) (.cst (.str [116,105,109,101,115])) (.cst (.str [112,108,117,115]))) (.cons (.var 7) (.cons (.var 8) .nil))))) .nil)))))) .nil) (.cons (.ife (.and (.cmp .Gt (.var 2) (.cst (.int 1))) (.and (.cmp .GtE (.subV 1 (.cst (.int 0))) (.cst (.int 2))) (.cmp .Eq (.var 5) (.cst (.int 6))))) (.cons (.seti (.var 1) (.cst (.int 0)) (.bin .Sub (.subV 1 (.cst (.int 0))) (.cst (.int 1)))) (.cons (.ret (.tup (.cons (.cst (.str [116,97,107,101])) (.cons (.call 13 (.cons (.var 0) .nil)) (.cons (.call 15 (.cons (.var 0) (.cons (.var 1) (.cons (.bin .Sub (.var 2) (.cst (.int 1))) (.cons (.var 3) (.cons (.var 4) .nil)))))) .nil))))) .nil)) .nil) (.cons (.ife (.or (.cmp .Eq (.var 3) (.cst (.int 0))) (.and (.cmp .Eq (.var 5) (.cst (.int 8))) (.cmp .Eq (.call 11 (.cons (.var 0) (.cons (.cst (.int 3)) .nil))) (.cst (.int 0))))) (.cons (.ret (.tup (.cons (.cst (.str [110,111,116,104,105,110,103])) .nil))) .nil) .nil) (.cons (.ret (.tup (.cons (.cst (.str [108,101,116,116,101,114])) (.cons (.subV 4 (.call 11 (.cons (.var 0) (.cons (.blt .len (.cons (.var 4) .nil)) .nil)))) .nil)))) .nil))))))
def fn__law_term : FnD := ⟨5, ["_law_well_here", "_law_room", "_law_deep", "_law_most", "_law_letters_here", "_law_mode", "_law_share", "_law_one", "_law_other"], bd__law_term, false⟩
/- _law_words: 0 _law_tree -/
def bd__law_words : StmL := (.cons (.ife (.cmp .Eq (.subV 0 (.cst (.int 0))) (.cst (.str [108,101,116,116,101,114]))) (.cons (.ret (.subV 0 (.cst (.int 1)))) .nil) .nil) (.cons (.ife (.cmp .Eq (.subV 0 (.cst (.int 0))) (.cst (.str [110,111,116,104,105,110,103]))) (.cons (.ret (.cst (.str [48]))) .nil) .nil) (.cons (.ife (.cmp .Eq (.subV 0 (.cst (.int 0))) (.cst (.str [116,97,107,101]))) (.cons (.ret (.bin .Add (.bin .Add (.bin .Add (.call 14 (.cons (.subV 0 (.cst (.int 1))) .nil)) (.cst (.str [91]))) (.call 16 (.cons (.subV 0 (.cst (.int 2))) .nil))) (.cst (.str [93])))) .nil) .nil) (.cons (.ret (.bin .Add (.bin .Add (.bin .Add (.bin .Add (.cst (.str [40])) (.call 16 (.cons (.subV 0 (.cst (.int 1))) .nil))) (.pick2 [116,105,109,101,115] [32] [112,108,117,115] [32,43,32] (.subV 0 (.cst (.int 0))))) (.call 16 (.cons (.subV 0 (.cst (.int 2))) .nil))) (.cst (.str [41])))) .nil))))
def fn__law_words : FnD := ⟨1, ["_law_tree"], bd__law_words, false⟩
/- _law_letters: 0 _law_well_here, 1 _law_left, 2 _law_found, 3 _law_turn -/
def bd__law_letters : StmL := (.cons (.asg (.tp [1,2]) (.tup (.cons (.cst (.str [97,98,99,100,101,102,103,104,105,106,107,108,109,110,111,112,113,114,115,116,117,118,119,120,121,122])) (.cons (.cst (.str [])) .nil)))) (.cons (.for_ (.nm 3) (.r1 (.bin .Add (.cst (.int 1)) (.call 11 (.cons (.var 0) (.cons (.cst (.int 4)) .nil))))) (.cons (.asg (.nm 2) (.bin .Add (.var 2) (.subV 1 (.call 11 (.cons (.var 0) (.cons (.blt .len (.cons (.var 1) .nil)) .nil)))))) (.cons (.asg (.nm 1) (.rpl 1 2 1)) .nil))) (.cons (.ret (.var 2)) .nil)))
def fn__law_letters : FnD := ⟨1, ["_law_well_here", "_law_left", "_law_found", "_law_turn"], bd__law_letters, false⟩
/- _law_same: 0 _law_told, 1 _law_due, 2 _law_kind, 3 _law_spot -/
def bd__law_same : StmL := (.cons (.ife (.or (.isi (.var 1) .tuple) (.isi (.var 1) .list)) (.cons (.asg (.nm 2) (.ife (.isi (.var 1) .tuple) (.isi (.var 0) .tuple) (.isi (.var 0) .list))) (.cons (.ife (.or (.not (.var 2)) (.cmp .NotEq (.blt .len (.cons (.var 0) .nil)) (.blt .len (.cons (.var 1) .nil)))) (.cons (.ret (.cst (.bl false))) .nil) .nil) (.cons (.for_ (.nm 3) (.r1 (.blt .len (.cons (.var 1) .nil))) (.cons (.ife (.not (.call 18 (.cons (.subV 0 (.var 3)) (.cons (.subV 1 (.var 3)) .nil)))) (.cons (.ret (.cst (.bl false))) .nil) .nil) .nil)) (.cons (.ret (.cst (.bl true))) .nil)))) .nil) (.cons (.ife (.isi (.var 1) .str) (.cons (.ret (.and (.isi (.var 0) .str) (.cmp .Eq (.var 0) (.var 1)))) .nil) .nil) (.cons (.ret (.and (.isi (.var 0) .int) (.and (.not (.isi (.var 0) .bool)) (.cmp .Eq (.var 0) (.var 1))))) .nil)))
def fn__law_same : FnD := ⟨2, ["_law_told", "_law_due", "_law_kind", "_law_spot"], bd__law_same, false⟩
/- _law_chain: 0 _law_well_here, 1 _law_letters_here, 2 _law_tree, 3 _law_turn, 4 _law_leaf, 5 _law_mode -/
def bd__law_chain : StmL := (.cons (.asg (.nm 2) (.tup (.cons (.cst (.str [108,101,116,116,101,114])) (.cons (.subV 1 (.cst (.int 0))) .nil)))) (.cons (.for_ (.nm 3) (.r1 (.call 11 (.cons (.var 0) (.cons (.cst (.int 20)) .nil)))) (.cons (.asg (.nm 4) (.sub (.lst (.cons (.tup (.cons (.cst (.str [108,101,116,116,101,114])) (.cons (.subV 1 (.neg (.cst (.int 1)))) .nil))) (.cons (.tup (.cons (.cst (.str [110,111,116,104,105,110,103])) .nil)) .nil))) (.blt .int (.cons (.cmp .Eq (.call 11 (.cons (.var 0) (.cons (.cst (.int 4)) .nil))) (.cst (.int 0))) .nil)))) (.cons (.asg (.nm 5) (.call 11 (.cons (.var 0) (.cons (.cst (.int 5)) .nil)))) (.cons (.ife (.cmp .Eq (.var 5) (.cst (.int 0))) (.cons (.asg (.nm 2) (.tup (.cons (.cst (.str [116,97,107,101])) (.cons (.call 13 (.cons (.var 0) .nil)) (.cons (.var 2) .nil))))) .nil) (.cons (.ife (.cmp .Lt (.var 5) (.cst (.int 3))) (.cons (.asg (.nm 2) (.tup (.cons (.sub (.lst (.cons (.cst (.str [116,105,109,101,115])) (.cons (.cst (.str [112,108,117,115])) .nil))) (.bin .Sub (.var 5) (.cst (.int 1)))) (.cons (.var 2) (.cons (.var 4) .nil))))) .nil) (.cons (.asg (.nm 2) (.tup (.cons (.sub (.lst (.cons (.cst (.str [116,105,109,101,115])) (.cons (.cst (.str [112,108,117,115])) .nil))) (.bin .Sub (.var 5) (.cst (.int 3)))) (.cons (.var 4) (.cons (.var 2) .nil))))) .nil)) .nil)) .nil)))) (.cons (.ret (.var 2)) .nil)))
def fn__law_chain : FnD := ⟨2, ["_law_well_here", "_law_letters_here", "_law_tree", "_law_turn", "_law_leaf", "_law_mode"], bd__law_chain, false⟩
/- _law_wide: 0 _law_well_here, 1 _law_deep -/
def bd__law_wide : StmL := (.cons (.ife (.cmp .Eq (.var 1) (.cst (.int 0))) (.cons (.ret (.tup (.cons (.cst (.str [108,101,116,116,101,114])) (.cons (.sub (.cst (.str [97,98,99,100,101,102,103,104,105,106,107,108,109,110,111,112,113,114,115,116,117,118,119,120,121,122])) (.call 11 (.cons (.var 0) (.cons (.cst (.int 26)) .nil)))) .nil)))) .nil) .nil) (.cons (.ret (.tup (.cons (.sub (.lst (.cons (.cst (.str [116,105,109,101,115])) (.cons (.cst (.str [112,108,117,115])) .nil))) (.call 11 (.cons (.var 0) (.cons (.cst (.int 2)) .nil)))) (.cons (.call 20 (.cons (.var 0) (.cons (.bin .Sub (.var 1) (.cst (.int 1))) .nil))) (.cons (.call 20 (.cons (.var 0) (.cons (.bin .Sub (.var 1) (.cst (.int 1))) .nil))) .nil))))) .nil))
def fn__law_wide : FnD := ⟨2, ["_law_well_here", "_law_deep"], bd__law_wide, false⟩
/- _law_monomial: 0 _law_well_here, 1 _law_many, 2 _law_letters_here, 3 _law_cut -/
def bd__law_monomial : StmL := (.cons (.ife (.cmp .Eq (.var 1) (.cst (.int 1))) (.cons (.ret (.subV 2 (.call 11 (.cons (.var 0) (.cons (.blt .len (.cons (.var 2) .nil)) .nil))))) .nil) .nil) (.cons (.asg (.nm 3) (.bin .Add (.cst (.int 1)) (.call 11 (.cons (.var 0) (.cons (.bin .Sub (.var 1) (.cst (.int 1))) .nil))))) (.cons (.ret (.tup (.cons (.call 21 (.cons (.var 0) (.cons (.var 3) (.cons (.var 2) .nil)))) (.cons (.call 21 (.cons (.var 0) (.cons (.bin .Sub (.var 1) (.var 3)) (.cons (.var 2) .nil)))) .nil)))) .nil)))
def fn__law_monomial : FnD := ⟨3, ["_law_well_here", "_law_many", "_law_letters_here", "_law_cut"], bd__law_monomial, false⟩
/- _law_monomial_said: 0 _law_tree -/
def bd__law_monomial_said : StmL := (.cons (.ret (.ife (.isi (.var 0) .str) (.var 0) (.bin .Add (.bin .Add (.bin .Add (.cst (.str [40])) (.call 22 (.cons (.subV 0 (.cst (.int 0))) .nil))) (.call 22 (.cons (.subV 0 (.cst (.int 1))) .nil))) (.cst (.str [41]))))) .nil)
def fn__law_monomial_said : FnD := ⟨1, ["_law_tree"], bd__law_monomial_said, false⟩
/- _law_right: 0 _law_well_here, 1 _law_letters_here, 2 _law_tree, 3 _law_said_here, 4 _law_longer, 5 _law_back, 6 _law_lot -/
def bd__law_right : StmL := (.cons (.asg (.nm 1) (.call 17 (.cons (.var 0) .nil))) (.cons (.asg (.nm 2) (.call 15 (.cons (.var 0) (.cons (.cel (.lst (.cons (.cst (.int 24)) .nil))) (.cons (.cst (.int 10)) (.cons (.cst (.int 4)) (.cons (.var 1) .nil))))))) (.cons (.asg (.nm 3) (.call 16 (.cons (.var 2) .nil))) (.cons (.ife (.or (.not (.call 18 (.cons (.call 8 (.cons (.var 2) .nil)) (.cons (.var 3) .nil)))) (.not (.call 18 (.cons (.callK 8 (.cons (.var 2) .nil) [] [0]) (.cons (.var 3) .nil))))) (.cons (.ret (.cst (.bl false))) .nil) .nil) (.cons (.ife (.or (.not (.call 18 (.cons (.call 6 (.cons (.var 3) .nil)) (.cons (.var 2) .nil)))) (.not (.call 18 (.cons (.callK 6 (.cons (.var 3) .nil) [] [0]) (.cons (.var 2) .nil))))) (.cons (.ret (.cst (.bl false))) .nil) .nil) (.cons (.asg (.nm 4) (.ife (.cmp .Gt (.call 11 (.cons (.var 0) (.cons (.cst (.int 4)) .nil))) (.cst (.int 0))) (.call 19 (.cons (.var 0) (.cons (.var 1) .nil))) (.call 20 (.cons (.var 0) (.cons (.bin .Add (.cst (.int 3)) (.call 11 (.cons (.var 0) (.cons (.cst (.int 6)) .nil)))) .nil))))) (.cons (.asg (.nm 5) (.call 6 (.cons (.call 16 (.cons (.var 4) .nil)) .nil))) (.cons (.ife (.or (.not (.call 18 (.cons (.var 5) (.cons (.var 4) .nil)))) (.not (.call 18 (.cons (.call 8 (.cons (.var 5) .nil)) (.cons (.call 16 (.cons (.var 4) .nil)) .nil))))) (.cons (.ret (.cst (.bl false))) .nil) .nil) (.cons (.asg (.nm 6) (.call 21 (.cons (.var 0) (.cons (.bin .Add (.cst (.int 1)) (.call 11 (.cons (.var 0) (.cons (.cst (.int 6)) .nil)))) (.cons (.var 1) .nil))))) (.cons (.asg (.nm 3) (.call 22 (.cons (.var 6) .nil))) (.cons (.ret (.and (.call 18 (.cons (.call 9 (.cons (.var 6) .nil)) (.cons (.var 3) .nil))) (.call 18 (.cons (.callK 9 (.cons (.var 6) .nil) [] [0]) (.cons (.var 3) .nil))))) .nil)))))))))))
def fn__law_right : FnD := ⟨1, ["_law_well_here", "_law_letters_here", "_law_tree", "_law_said_here", "_law_longer", "_law_back", "_law_lot"], bd__law_right, false⟩
/- law: 0 _law_script, 1 _law_spot, 2 _law_well_here, 3 _law_turn -/
def bd_law : StmL := (.cons (.for_ (.nm 1) (.r1 (.blt .max2 (.cons (.cst (.int 2)) (.cons (.blt .min2 (.cons (.cst (.int 8)) (.cons (.blt .len (.cons (.var 0) .nil)) .nil))) .nil)))) (.cons (.asg (.nm 2) (.call 10 (.cons (.var 0) (.cons (.var 1) .nil)))) (.cons (.for_ (.nm 3) (.r1 (.cst (.int 3))) (.cons (.ife (.not (.call 23 (.cons (.var 2) .nil))) (.cons (.ret (.cst (.bl false))) .nil) .nil) .nil)) .nil))) (.cons (.ret (.cst (.bl true))) .nil))
def fn_law : FnD := ⟨1, ["_law_script", "_law_spot", "_law_well_here", "_law_turn"], bd_law, false⟩
def Φ : List FnD := [fn_is_number, fn_whole_of, fn_number_of, fn_taken_at, fn_pair_at, fn_term_at, fn_read_term, fn_show_number, fn_show_term, fn_show_monomial, fn__law_well, fn__law_dip, fn__law_common, fn__law_pair, fn__law_said, fn__law_term, fn__law_words, fn__law_letters, fn__law_same, fn__law_chain, fn__law_wide, fn__law_monomial, fn__law_monomial_said, fn__law_right, fn_law]
def fu : Nat := 100000
/-- the calls at a level -/
def cl (n : Nat) : Cl := ⟨callF Φ fu n, fun g => ((Φ[g]?).map FnD.fr).getD false, fu⟩
theorem at_is_number (n : Nat) : callF Φ fu (n + 1) 0 = run (cl n) fn_is_number := rfl
theorem at_whole_of (n : Nat) : callF Φ fu (n + 1) 1 = run (cl n) fn_whole_of := rfl
theorem at_number_of (n : Nat) : callF Φ fu (n + 1) 2 = run (cl n) fn_number_of := rfl
theorem at_taken_at (n : Nat) : callF Φ fu (n + 1) 3 = run (cl n) fn_taken_at := rfl
theorem at_pair_at (n : Nat) : callF Φ fu (n + 1) 4 = run (cl n) fn_pair_at := rfl
theorem at_term_at (n : Nat) : callF Φ fu (n + 1) 5 = run (cl n) fn_term_at := rfl
theorem at_read_term (n : Nat) : callF Φ fu (n + 1) 6 = run (cl n) fn_read_term := rfl
theorem at_show_number (n : Nat) : callF Φ fu (n + 1) 7 = run (cl n) fn_show_number := rfl
theorem at_show_term (n : Nat) : callF Φ fu (n + 1) 8 = run (cl n) fn_show_term := rfl
theorem at_show_monomial (n : Nat) : callF Φ fu (n + 1) 9 = run (cl n) fn_show_monomial := rfl
theorem at__law_well (n : Nat) : callF Φ fu (n + 1) 10 = run (cl n) fn__law_well := rfl
theorem at__law_dip (n : Nat) : callF Φ fu (n + 1) 11 = run (cl n) fn__law_dip := rfl
theorem at__law_common (n : Nat) : callF Φ fu (n + 1) 12 = run (cl n) fn__law_common := rfl
theorem at__law_pair (n : Nat) : callF Φ fu (n + 1) 13 = run (cl n) fn__law_pair := rfl
theorem at__law_said (n : Nat) : callF Φ fu (n + 1) 14 = run (cl n) fn__law_said := rfl
theorem at__law_term (n : Nat) : callF Φ fu (n + 1) 15 = run (cl n) fn__law_term := rfl
theorem at__law_words (n : Nat) : callF Φ fu (n + 1) 16 = run (cl n) fn__law_words := rfl
theorem at__law_letters (n : Nat) : callF Φ fu (n + 1) 17 = run (cl n) fn__law_letters := rfl
theorem at__law_same (n : Nat) : callF Φ fu (n + 1) 18 = run (cl n) fn__law_same := rfl
theorem at__law_chain (n : Nat) : callF Φ fu (n + 1) 19 = run (cl n) fn__law_chain := rfl
theorem at__law_wide (n : Nat) : callF Φ fu (n + 1) 20 = run (cl n) fn__law_wide := rfl
theorem at__law_monomial (n : Nat) : callF Φ fu (n + 1) 21 = run (cl n) fn__law_monomial := rfl
theorem at__law_monomial_said (n : Nat) : callF Φ fu (n + 1) 22 = run (cl n) fn__law_monomial_said := rfl
theorem at__law_right (n : Nat) : callF Φ fu (n + 1) 23 = run (cl n) fn__law_right := rfl
theorem at_law (n : Nat) : callF Φ fu (n + 1) 24 = run (cl n) fn_law := rfl
end K85

namespace K85
open PySem Tp
theorem callE (n i : Nat) : (cl n).call i = callF Φ fu n i := rfl
theorem is_number_sp (n : Nat) (a b : Int) (S : List O) : (cl (n + 1)).call 0 [.tup [.int a, .int b]] S = .ok (.bl (decide (1 ≤ b) && decide ((Int.gcd a b : Int) = 1))) S := by
  rw [callE, at_is_number, run1 _ _ _ _ rfl]
  simp [fn_is_number, bd_is_number]
  by_cases h : 1 ≤ b <;> simp [h]
/-- a well -/
def Well (S : List O) (n : Nat) (T : Int) : Prop := ∃ a b c : Int, S[n]? = some (.lst [.int a, .int b, .int c]) ∧ 0 ≤ a ∧ 0 ≤ b ∧ b < 10 ^ 24 + 7 ∧ 0 ≤ c ∧ c ≤ T
/-- only the well at n has changed -/
structure Drew (n : Nat) (t : Int) (S S' : List O) : Prop where
  w : ∀ T, Well S n T → T + t ≤ 10 ^ 9 → Well S' n (T + t)
  l : S'.length = S.length
  o : ∀ j, j ≠ n → S'[j]? = S[j]?
theorem Drew.refl (n : Nat) (S : List O) : Drew n 0 S S := ⟨fun T h _ => by simpa using h, rfl, fun _ _ => rfl⟩
theorem Drew.trans {n : Nat} {t u : Int} {S S1 S2 : List O} (a : Drew n t S S1) (b : Drew n u S1 S2) (ht : 0 ≤ t) (hu : 0 ≤ u) : Drew n (t + u) S S2 :=
  ⟨fun T h q => by rw [← Int.add_assoc]; exact b.w _ (a.w T h (by omega)) (by omega), b.l.trans a.l, fun j h => (b.o j h).trans (a.o j h)⟩
/-- a draw -/
theorem dip_sp (k n : Nat) (m : Int) (S : List O) (T : Int) (W : Well S n T) (hT : T ≤ 10 ^ 9) (hm : 0 < m) (hm2 : m < 10 ^ 9) :
    ∃ (v : Int) (S' : List O), (cl (k + 1)).call 11 [.cell n, .int m] S = .ok (.int v) S' ∧ 0 ≤ v ∧ v < m ∧ Well S' n (T + 1) ∧ S'.length = S.length ∧ ∀ j, j ≠ n → S'[j]? = S[j]? := by
  obtain ⟨a, b, c, hS, h1, h2, h3, h4, h5⟩ := W
  have hlen : n < S.length := (List.getElem?_eq_some_iff.mp hS).1
  have hd := divOk_lt hm (by omega)
  rw [callE, at__law_dip, run1 _ _ _ _ rfl]
  by_cases ha : 0 < a
  · simp [fn__law_dip, bd__law_dip, List.replicate, vw_cell hS, ha, hm, hd, hS]
    refine ⟨_, _, ⟨rfl, rfl⟩, Int.emod_nonneg _ (by omega), Int.emod_lt_of_pos _ hm, ⟨a / m, b, c, ?_, Int.ediv_nonneg h1 (by omega), h2, h3, h4, by omega⟩, by simp, fun j hj => ?_⟩
    · simp [hlen]
    · rw [List.getElem?_set_ne (Ne.symm hj)]
  · have hS1 : (S.set n (.lst [.int a, .int b, .int (c + 1)]))[n]? = some (.lst [.int a, .int b, .int (c + 1)]) := by simp [hlen]
    have p1 : powOk (b + 1000003 * (c + 1)) 3 = true := powOk_lt (N := 100) (by omega) (by omega) (by omega) (by omega)
    have p2 : powOk 10 25 = true := powOk_lt (N := 4) (by omega) (by omega) (by omega) (by omega)
    have p3 : powOk 10 24 = true := powOk_lt (N := 4) (by omega) (by omega) (by omega) (by omega)
    have m1 : ∀ x, mulOk 1000003 x = true := fun x => mulOk_l (by omega)
    have m2 : ∀ x, mulOk 77347 x = true := fun x => mulOk_l (by omega)
    have d1 : divOk 4096 = true := divOk_lt (by omega) (by omega)
    have hq := Int.emod_lt_of_pos ((b + 1000003 * (c + 1)) ^ 3) (b := 10000000000000000000000013) (by omega)
    have hq0 := Int.emod_nonneg ((b + 1000003 * (c + 1)) ^ 3) (b := 10000000000000000000000013) (by omega)
    generalize hx : (b + 1000003 * (c + 1)) ^ 3 % 10000000000000000000000013 = x at hq hq0
    have p4 : powOk (x + 77347 * (c + 1)) 2 = true := powOk_lt (N := 100) (by omega) (by omega) (by omega) (by omega)
    simp [fn__law_dip, bd__law_dip, List.replicate, vw_cell hS, ha, hm, hd, hS, vw_cell hS1, p1, p2, p3, m1, m2, d1, hx, p4]
    refine ⟨_, _, ⟨rfl, rfl⟩, Int.emod_nonneg _ (by omega), Int.emod_lt_of_pos _ hm, ⟨a, b, c + 1, ?_, h1, h2, h3, by omega, by omega⟩, by simp, fun j hj => ?_⟩
    · simp [hlen]
    · rw [List.getElem?_set_ne (Ne.symm hj)]
end K85

namespace K85
open PySem Tp
inductive Tm where
  | letter (c : Nat) | nothing | take (p q : Int) (t : Tm) | two (k : Bool) (x y : Tm)
def kindL : Bool → List Nat
  | true => [116,105,109,101,115]
  | false => [112,108,117,115]
def enc : Tm → D
  | .letter c => .tup [.str [108,101,116,116,101,114], .str [c]]
  | .nothing => .tup [.str [110,111,116,104,105,110,103]]
  | .take p q t => .tup [.str [116,97,107,101], .tup [.int p, .int q], enc t]
  | .two k x y => .tup [.str (kindL k), enc x, enc y]
def num (p q : Int) : List Nat := if q = 1 then intL p else intL p ++ [47] ++ intL q
def gap (k : Bool) : List Nat := if k then [32] else [32,43,32]
def wd : Tm → List Nat
  | .letter c => [c]
  | .nothing => [48]
  | .take p q t => num p q ++ [91] ++ wd t ++ [93]
  | .two k x y => [40] ++ wd x ++ gap k ++ wd y ++ [41]
def ht : Tm → Nat
  | .letter _ => 1
  | .nothing => 1
  | .take _ _ t => ht t + 1
  | .two _ x y => max (ht x) (ht y) + 1
structure NumOk (p q : Int) : Prop where
  one : 1 ≤ q
  g : (Int.gcd p q : Int) = 1
  p1 : -100000 < p
  p2 : p < 100000
  q2 : q < 100000
def Ok : Tm → Prop
  | .letter c => 97 ≤ c ∧ c ≤ 122
  | .nothing => True
  | .take p q t => NumOk p q ∧ Ok t
  | .two _ x y => Ok x ∧ Ok y
theorem bits_small {i : Int} (h : -100000 < i) (h2 : i < 100000) : bits i < 1900 := by
  show i.natAbs.log2 < 1900
  by_cases h0 : i.natAbs = 0
  · rw [h0]; decide
  · exact Nat.lt_of_lt_of_le ((Nat.log2_lt h0).mpr (by omega : i.natAbs < 2 ^ 17)) (by decide)
theorem intL_len {i : Int} (h : -100000 < i) (h2 : i < 100000) : (intL i).length ≤ 6 := by
  have : (TL.numL i.natAbs).length ≤ 5 := TL.numL_len (by decide) (by omega)
  unfold intL
  split
  · simp only [List.length_cons]; omega
  · omega
theorem show_number_sp (n : Nat) (p q : Int) (S : List O) (h : NumOk p q) : (cl (n + 1)).call 7 [.tup [.int p, .int q]] S = .ok (.str (num p q)) S := by
  have h1 := bits_small h.p1 h.p2
  have h2 := bits_small (by have := h.one; omega) h.q2
  have h3 := intL_len h.p1 h.p2
  rw [callE, at_show_number, run1 _ _ _ _ rfl]
  by_cases hq : q = 1
  · simp (disch := first | assumption | (simp only [List.length_append, List.length_cons, List.length_nil, LIM]; omega)) [fn_show_number, bd_show_number, List.replicate, hq, num]
  · simp (disch := first | assumption | (simp only [List.length_append, List.length_cons, List.length_nil, LIM]; omega)) [fn_show_number, bd_show_number, List.replicate, hq, num]
theorem said_sp (n : Nat) (p q : Int) (S : List O) (h : NumOk p q) : (cl (n + 1)).call 14 [.tup [.int p, .int q]] S = .ok (.str (num p q)) S := by
  have h1 := bits_small h.p1 h.p2
  have h2 := bits_small (by have := h.one; omega) h.q2
  have h3 := intL_len h.p1 h.p2
  have h4 := intL_len (by have := h.one; omega) h.q2
  rw [callE, at__law_said, run1 _ _ _ _ rfl]
  by_cases hq : q = 1
  · simp (disch := first | assumption | (simp only [List.length_append, List.length_cons, List.length_nil, LIM]; omega)) [fn__law_said, bd__law_said, List.replicate, hq, num]
  · simp (disch := first | assumption | (simp only [List.length_append, List.length_cons, List.length_nil, LIM]; omega)) [fn__law_said, bd__law_said, List.replicate, hq, num]
theorem num_len {p q : Int} (h : NumOk p q) : (num p q).length ≤ 13 := by
  have h3 := intL_len h.p1 h.p2
  have h4 := intL_len (by have := h.one; omega) h.q2
  unfold num
  split
  · omega
  · simp only [List.length_append, List.length_cons, List.length_nil]; omega
theorem show_term_sp : ∀ (t : Tm) (n : Nat) (S : List O), Ok t → ht t ≤ n → (wd t).length ≤ 1000000 → (cl (n + 2)).call 8 [enc t] S = .ok (.str (wd t)) S
  | .letter c, n, S, _, _, _ => by
    rw [callE, at_show_term, run1 _ _ _ _ rfl]
    simp [fn_show_term, bd_show_term, List.replicate, enc, wd]
  | .nothing, n, S, _, _, _ => by
    rw [callE, at_show_term, run1 _ _ _ _ rfl]
    simp [fn_show_term, bd_show_term, List.replicate, enc, wd]
  | .take p q t, n, S, ok, hn, hl => by
    obtain ⟨m, rfl⟩ : ∃ m, n = m + 1 := ⟨n - 1, by simp only [ht] at hn; omega⟩
    simp only [ht] at hn
    have h1 := show_number_sp (m + 1) p q S ok.1
    have hl' := hl
    simp only [wd, List.length_append, List.length_cons, List.length_nil] at hl
    have h2 := show_term_sp t m S ok.2 (by omega) (by omega)
    have h3 := num_len ok.1
    rw [callE, at_show_term, run1 _ _ _ _ rfl]
    simp (disch := first | assumption | (simp only [List.length_append, List.length_cons, List.length_nil, LIM]; omega)) [fn_show_term, bd_show_term, List.replicate, enc, wd, h1, h2]
  | .two k x y, n, S, ok, hn, hl => by
    obtain ⟨m, rfl⟩ : ∃ m, n = m + 1 := ⟨n - 1, by simp only [ht] at hn; omega⟩
    simp only [ht] at hn
    simp only [wd, List.length_append, List.length_cons, List.length_nil] at hl
    have h1 := show_term_sp x m S ok.1 (by omega) (by omega)
    have h2 := show_term_sp y m S ok.2 (by omega) (by omega)
    rw [callE, at_show_term, run1 _ _ _ _ rfl]
    cases k <;> simp (disch := first | assumption | (simp only [List.length_append, List.length_cons, List.length_nil, LIM]; omega)) [fn_show_term, bd_show_term, List.replicate, enc, wd, h1, h2, kindL, gap]
theorem words_sp : ∀ (t : Tm) (n : Nat) (S : List O), Ok t → ht t ≤ n → (wd t).length ≤ 1000000 → (cl (n + 2)).call 16 [enc t] S = .ok (.str (wd t)) S
  | .letter c, n, S, _, _, _ => by
    rw [callE, at__law_words, run1 _ _ _ _ rfl]
    simp [fn__law_words, bd__law_words, List.replicate, enc, wd]
  | .nothing, n, S, _, _, _ => by
    rw [callE, at__law_words, run1 _ _ _ _ rfl]
    simp [fn__law_words, bd__law_words, List.replicate, enc, wd]
  | .take p q t, n, S, ok, hn, hl => by
    obtain ⟨m, rfl⟩ : ∃ m, n = m + 1 := ⟨n - 1, by simp only [ht] at hn; omega⟩
    simp only [ht] at hn
    have h1 := said_sp (m + 1) p q S ok.1
    simp only [wd, List.length_append, List.length_cons, List.length_nil] at hl
    have h2 := words_sp t m S ok.2 (by omega) (by omega)
    have h3 := num_len ok.1
    rw [callE, at__law_words, run1 _ _ _ _ rfl]
    simp (disch := first | assumption | (simp only [List.length_append, List.length_cons, List.length_nil, LIM]; omega)) [fn__law_words, bd__law_words, List.replicate, enc, wd, h1, h2]
  | .two k x y, n, S, ok, hn, hl => by
    obtain ⟨m, rfl⟩ : ∃ m, n = m + 1 := ⟨n - 1, by simp only [ht] at hn; omega⟩
    simp only [ht] at hn
    simp only [wd, List.length_append, List.length_cons, List.length_nil] at hl
    have h1 := words_sp x m S ok.1 (by omega) (by omega)
    have h2 := words_sp y m S ok.2 (by omega) (by omega)
    rw [callE, at__law_words, run1 _ _ _ _ rfl]
    cases k <;> simp (disch := first | assumption | (simp only [List.length_append, List.length_cons, List.length_nil, LIM]; omega)) [fn__law_words, bd__law_words, List.replicate, enc, wd, h1, h2, kindL, gap]
end K85

namespace K85
open PySem Tp
theorem same_str (n : Nat) (s : List Nat) (S : List O) : (cl (n + 1)).call 18 [.str s, .str s] S = .ok (.bl true) S := by
  rw [callE, at__law_same, run1 _ _ _ _ rfl]
  simp [fn__law_same, bd__law_same, List.replicate, subTy]
theorem same_int (n : Nat) (i : Int) (S : List O) : (cl (n + 1)).call 18 [.int i, .int i] S = .ok (.bl true) S := by
  rw [callE, at__law_same, run1 _ _ _ _ rfl]
  simp [fn__law_same, bd__law_same, List.replicate, subTy]
theorem same_tup (n : Nat) (xs : List D) (S : List O) (h : ∀ x ∈ xs, (cl n).call 18 [x, x] S = .ok (.bl true) S) (hl : xs.length < 100) : (cl (n + 1)).call 18 [.tup xs, .tup xs] S = .ok (.bl true) S := by
  have hsm : small62 (xs.length : Int) = true := by unfold small62; exact decide_eq_true (by omega)
  rw [callE, at__law_same, run1 _ _ _ _ rfl]
  simp [fn__law_same, bd__law_same, List.replicate, subTy, evS_for, hsm]
  obtain ⟨st', e, x, hx⟩ := forB_ind (C := cl n) (tg := .nm 3) (b := .cons (.ife (.not (.call 18 (.cons (.subV 0 (.var 3)) (.cons (.subV 1 (.var 3)) .nil)))) (.cons (.ret (.cst (.bl false))) .nil) .nil) .nil)
    (fun _ st => ∃ x, st = ⟨[.val (.tup xs), .val (.tup xs), .val (.bl true), x], S⟩) (rangeL 0 xs.length) (fun j d st hd hp => by
      obtain ⟨x, rfl⟩ := hp
      obtain ⟨rfl, hj⟩ := rangeL_get hd
      have hat : L2.atI xs (j : Int) = some xs[j] := at_nat (List.getElem?_eq_getElem hj)
      refine ⟨_, ⟨[.val (.tup xs), .val (.tup xs), .val (.bl true), .val (.int (0 + (j : Int)))], S⟩, rfl, ?_, _, rfl⟩
      simp [hat, h _ (List.getElem_mem hj)]) ⟨[.val (.tup xs), .val (.tup xs), .val (.bl true), .no], S⟩ ⟨_, rfl⟩
  rw [e, hx]
  simp
theorem same_sp : ∀ (t : Tm) (n : Nat) (S : List O), ht t ≤ n → (cl (n + 2)).call 18 [enc t, enc t] S = .ok (.bl true) S
  | .letter c, n, S, hn => by
    refine same_tup (n + 1) _ S (fun x hx => ?_) (by simp)
    simp only [List.mem_cons, List.not_mem_nil, or_false] at hx
    rcases hx with rfl | rfl <;> exact same_str _ _ _
  | .nothing, n, S, hn => by
    refine same_tup (n + 1) _ S (fun x hx => ?_) (by simp)
    simp only [List.mem_cons, List.not_mem_nil, or_false] at hx
    subst hx
    exact same_str _ _ _
  | .take p q t, n, S, hn => by
    simp only [ht] at hn
    obtain ⟨m, rfl⟩ : ∃ m, n = m + 1 := ⟨n - 1, by omega⟩
    refine same_tup (m + 1 + 1) _ S (fun x hx => ?_) (by simp)
    simp only [List.mem_cons, List.not_mem_nil, or_false] at hx
    rcases hx with rfl | rfl | rfl
    · exact same_str _ _ _
    · refine same_tup (m + 1) _ S (fun x hx => ?_) (by simp)
      simp only [List.mem_cons, List.not_mem_nil, or_false] at hx
      rcases hx with rfl | rfl <;> exact same_int _ _ _
    · exact same_sp t m S (by omega)
  | .two k x y, n, S, hn => by
    simp only [ht] at hn
    obtain ⟨m, rfl⟩ : ∃ m, n = m + 1 := ⟨n - 1, by omega⟩
    refine same_tup (m + 1 + 1) _ S (fun x hx => ?_) (by simp)
    simp only [List.mem_cons, List.not_mem_nil, or_false] at hx
    rcases hx with rfl | rfl | rfl
    · exact same_str _ _ _
    · exact same_sp _ m S (by omega)
    · exact same_sp _ m S (by omega)
end K85

namespace K85
open PySem Tp
theorem numL_le {p : Int} (h : -100000 < p) (h2 : p < 100000) : (TL.numL p.natAbs).length ≤ 5 := TL.numL_len (by decide) (by omega)
theorem mem_digs {n c : Nat} (h : c ∈ TL.numL n) : 48 ≤ c ∧ c ≤ 57 := by
  have := digs_num n
  unfold digs at this
  have := List.all_eq_true.mp this c h
  exact of_decide_eq_true this
theorem whole_sp (n : Nat) (p : Int) (S : List O) (h : -100000 < p) (h2 : p < 100000) : (cl (n + 1)).call 1 [.str (intL p)] S = .ok (.int p) S := by
  have hn := numL_le h h2
  have hlen : (intL p).length ≤ 6 := by
    unfold intL
    split
    · simp only [List.length_cons]; omega
    · omega
  have hr := readI_int (p := p) (by omega)
  obtain ⟨c, r, e, h3, h4, h5⟩ := num_head p.natAbs
  -- the digits
  have hdig : (if startsL (intL p) [45] = true then cut (intL p) (some 1) none else intL p) = TL.numL p.natAbs := by
    unfold intL
    by_cases hp : p < 0
    · rw [if_pos hp]
      have : startsL (45 :: TL.numL p.natAbs) [45] = true := by simp [startsL]
      rw [if_pos this]
      exact cut_from (45 :: TL.numL p.natAbs) 1
    · rw [if_neg hp]
      have : startsL (TL.numL p.natAbs) [45] = false := by rw [e]; simp [startsL]; omega
      rw [this, if_neg (by decide)]
  have hall : lcB (cl n) (.cmp .In (.var 2) (.gc 0 (.str [48,49,50,51,52,53,54,55,56,57]))) (.nm 2) .none [2] ((TL.numL p.natAbs).map fun c => .str [c]) [] ⟨[.val (.str (intL p)), .val (.str (TL.numL p.natAbs)), .no], S⟩ = .ok ((TL.numL p.natAbs).map fun c => .bl true) ⟨[.val (.str (intL p)), .val (.str (TL.numL p.natAbs)), .no], S⟩ := by
    have := lcB_ind (C := cl n) (elt := .cmp .In (.var 2) (.gc 0 (.str [48,49,50,51,52,53,54,55,56,57]))) (tg := .nm 2) (own := [2]) (ds := (TL.numL p.natAbs).map fun c => .str [c]) (st := ⟨[.val (.str (intL p)), .val (.str (TL.numL p.natAbs)), .no], S⟩) (fun _ => .bl true) (by simp [LIM]; omega) fun d hd => by
      obtain ⟨c, hc, rfl⟩ := List.mem_map.mp hd
      have hc := mem_digs hc
      refine ⟨_, ⟨[.val (.str (intL p)), .val (.str (TL.numL p.natAbs)), .val (.str [c])], S⟩, rfl, ?_, rfl⟩
      have : c = 48 ∨ c = 49 ∨ c = 50 ∨ c = 51 ∨ c = 52 ∨ c = 53 ∨ c = 54 ∨ c = 55 ∨ c = 56 ∨ c = 57 := by omega
      simp [wipe, this]
    rw [List.map_map] at this
    exact this
  have hall2 : boolsOf ((TL.numL p.natAbs).map fun c => D.bl true) = some ((TL.numL p.natAbs).map fun _ => true) := boolsOf_map (fun _ => true) _
  have h0 : TL.numL p.natAbs ≠ [] := TL.numL_ne _
  have hz : c = 48 → intL p = [48] := fun hc => by
    have := h5 hc
    have hp : p = 0 := by omega
    subst hp
    unfold intL
    rw [if_neg (by decide)]
    exact TL.numL_lt (by decide)
  rw [callE, at_whole_of, run1 _ _ _ _ rfl]
  have hL : (intL p).length ≤ LIM := by show _ ≤ 16000000; omega
  have hL2 : (TL.numL p.natAbs).length ≤ LIM := by show _ ≤ 16000000; omega
  have hat : L2.atI (TL.numL p.natAbs) 0 = some c := by rw [e]; exact at_0 _ _
  have h9 : ¬ (9 : Int) < ((TL.numL p.natAbs).length : Int) := by omega
  by_cases hs : startsL (intL p) [45] = true
  · rw [if_pos hs] at hdig
    simp (disch := assumption) [fn_whole_of, bd_whole_of, List.replicate, miD, hs, hdig, h0, h9, itemsOf, hall, hall2, hat, hr]
    exact hz
  · rw [if_neg hs] at hdig
    rw [← hdig] at hall hall2 h0 hat h9
    simp (disch := assumption) [fn_whole_of, bd_whole_of, List.replicate, miD, hs, h0, h9, itemsOf, hall, hall2, hat, hr]
    exact hz
theorem part_no (c : Nat) : ∀ s : List Nat, c ∉ s → partL c s = (s, [], [])
  | [], _ => rfl
  | d :: r, h => by
    simp only [List.mem_cons, not_or] at h
    unfold partL
    rw [if_neg (fun e => h.1 e.symm), part_no c r h.2]
theorem part_at (c : Nat) (t : List Nat) : ∀ s : List Nat, c ∉ s → partL c (s ++ c :: t) = (s, [c], t)
  | [], _ => by
    show partL c (c :: t) = _
    unfold partL
    rw [if_pos rfl]
  | d :: r, h => by
    simp only [List.mem_cons, not_or] at h
    show partL c (d :: (r ++ c :: t)) = _
    unfold partL
    rw [if_neg (fun e => h.1 e.symm), part_at c t r h.2]
theorem slash_int (p : Int) : 47 ∉ intL p := fun h => by
  unfold intL at h
  split at h
  · rcases List.mem_cons.mp h with h | h
    · cases h
    · have := mem_digs h; omega
  · have := mem_digs h; omega
theorem number_sp (n : Nat) (p q : Int) (S : List O) (h : NumOk p q) : (cl (n + 2)).call 2 [.str (num p q)] S = .ok (.tup [.int p, .int q]) S := by
  have hl := num_len h
  have hL : (num p q).length ≤ LIM := by show _ ≤ 16000000; omega
  have h1 := whole_sp n p S h.p1 h.p2
  have h2 := whole_sp n q S (by have := h.one; omega) h.q2
  have h3 := is_number_sp n p q S
  have hone := h.one
  have hg := h.g
  rw [callE, at_number_of, run1 _ _ _ _ rfl]
  by_cases hq : q = 1
  · subst hq
    have e : partL 47 (num p 1) = (intL p, [], []) := part_no _ _ (slash_int p)
    simp (disch := assumption) [fn_number_of, bd_number_of, List.replicate, miD, e, hL, h1]
  · have e : partL 47 (num p q) = (intL p, [47], intL q) := by
      unfold num
      rw [if_neg hq, List.append_assoc]
      exact part_at _ _ _ (slash_int p)
    have hq2 : ¬ q < 2 := by omega
    simp (disch := assumption) [fn_number_of, bd_number_of, List.replicate, miD, e, hL, h1, h2, h3, hq2, hone, hg]
end K85

namespace K85
open PySem Tp
theorem cutT {T a m r : List Nat} {k j : Int} (h : T = a ++ (m ++ r)) (hk : k = a.length) (hj : j = k + m.length) : cut T (some k) (some j) = m := by
  subst h hj hk
  exact cut_mid a m r
theorem cutT1 {T a r : List Nat} {c : Nat} {k : Int} (h : T = a ++ (c :: r)) (hk : k = a.length) : cut T (some k) (some (k + 1)) = [c] := cutT (m := [c]) h hk rfl
theorem cutT0 {T a : List Nat} {k : Int} (h : T = a) (hk : k = a.length) : cut T (some k) (some (k + 1)) = [] := by
  subst h hk
  rw [show ((T.length : Int) + 1) = ((T.length + 1 : Nat) : Int) by omega, cut_nat]
  simp
/-- signs of a number's text -/
def inN (c : Nat) : Prop := c = 45 ∨ c = 47 ∨ c = 48 ∨ c = 49 ∨ c = 50 ∨ c = 51 ∨ c = 52 ∨ c = 53 ∨ c = 54 ∨ c = 55 ∨ c = 56 ∨ c = 57
theorem inN_int {p : Int} {c : Nat} (h : c ∈ intL p) : inN c ∧ c ≠ 47 := by
  unfold intL at h
  unfold inN
  split at h
  · rcases List.mem_cons.mp h with h | h
    · omega
    · have := mem_digs h; omega
  · have := mem_digs h; omega
theorem inN_num {p q : Int} {c : Nat} (h : c ∈ num p q) : inN c := by
  unfold num at h
  split at h
  · exact (inN_int h).1
  · simp only [List.mem_append, List.mem_cons, List.not_mem_nil, or_false] at h
    rcases h with (h | h) | h
    · exact (inN_int h).1
    · subst h; exact .inr (.inl rfl)
    · exact (inN_int h).1
theorem num_hd (p q : Int) : ∃ c r, num p q = c :: r ∧ (c = 45 ∨ (48 ≤ c ∧ c ≤ 57)) := by
  have : ∃ c r, intL p = c :: r ∧ (c = 45 ∨ (48 ≤ c ∧ c ≤ 57)) := by
    unfold intL
    split
    · exact ⟨45, _, rfl, .inl rfl⟩
    · obtain ⟨c, r, e, h1, h2, _⟩ := num_head p.natAbs
      exact ⟨c, r, e, .inr ⟨h1, h2⟩⟩
  obtain ⟨c, r, e, h⟩ := this
  unfold num
  split
  · exact ⟨c, r, e, h⟩
  · exact ⟨c, r ++ [47] ++ intL q, by rw [e]; simp, h⟩
/-- what may follow a term -/
def Fr (b : List Nat) : Prop := ∀ c r, b = c :: r → c = 32 ∨ c = 41 ∨ c = 93
/-- the scan of a number's text -/
theorem scan (C : Cl) (T a w b : List Nat) (S : List O) (k : Int) (hT : T = a ++ (w ++ b)) (hk : k = a.length) (hl : T.length ≤ 1000000) (hw : ∀ c ∈ w, inN c) (hb : ∀ c r, b = c :: r → ¬ inN c) (hw2 : w.length < 90000) (hf : C.fuel = 100000) :
    whlB C (.and (.cmp .Lt (.var 2) (.blt .len (.cons (.var 0) .nil))) (.cmp .In (.subV 0 (.var 2)) (.cst (.str [45,47,48,49,50,51,52,53,54,55,56,57])))) (.cons (.aug 2 .Add (.cst (.int 1))) .nil) C.fuel ⟨[.val (.str T), .val (.int k), .val (.int k), .no, .no, .no], S⟩ = .ok .nx ⟨[.val (.str T), .val (.int k), .val (.int (k + w.length)), .no, .no, .no], S⟩ := by
  have hL : T.length ≤ LIM := by show _ ≤ 16000000; omega
  obtain ⟨st', e, q⟩ := whlB_ind (C := C) (t := .and (.cmp .Lt (.var 2) (.blt .len (.cons (.var 0) .nil))) (.cmp .In (.subV 0 (.var 2)) (.cst (.str [45,47,48,49,50,51,52,53,54,55,56,57])))) (b := .cons (.aug 2 .Add (.cst (.int 1))) .nil)
    (fun m st => ∃ j : Nat, m + j = w.length ∧ st = ⟨[.val (.str T), .val (.int k), .val (.int (k + j)), .no, .no, .no], S⟩) (fun st => st = ⟨[.val (.str T), .val (.int k), .val (.int (k + w.length)), .no, .no, .no], S⟩)
    (fun m st ⟨j, hj, hst⟩ => by
      subst hst
      have hTl : T.length = a.length + w.length + b.length := by rw [hT]; simp; omega
      by_cases hjw : j < w.length
      · right
        refine ⟨⟨[.val (.str T), .val (.int k), .val (.int (k + j)), .no, .no, .no], S⟩, ⟨[.val (.str T), .val (.int k), .val (.int (k + (j + 1 : Nat))), .no, .no, .no], S⟩, m - 1, ?_, ?_, by omega, j + 1, by omega, rfl⟩
        · have h1 : k + (j : Int) < (T.length : Int) := by omega
          have h2 : L2.atI T (k + (j : Int)) = some w[j] := by
            rw [hk, show ((a.length : Int) + (j : Int)) = ((a.length + j : Nat) : Int) by omega]
            refine at_nat ?_
            rw [hT, List.getElem?_append_right (by omega), Nat.add_sub_cancel_left, List.getElem?_append_left hjw]
            exact List.getElem?_eq_getElem hjw
          have h3 := hw w[j] (List.getElem_mem hjw)
          unfold inN at h3
          simp (disch := assumption) [h1, h2, h3]
        · simp [Int.add_assoc]
      · left
        have hjw : j = w.length := by omega
        subst hjw
        refine ⟨⟨[.val (.str T), .val (.int k), .val (.int (k + w.length)), .no, .no, .no], S⟩, ?_, rfl⟩
        cases b with
        | nil =>
          have h1 : ¬ k + (w.length : Int) < (T.length : Int) := by simp at hTl; omega
          simp (disch := assumption) [h1]
        | cons c r =>
          have h1 : k + (w.length : Int) < (T.length : Int) := by simp at hTl; omega
          have h2 : L2.atI T (k + (w.length : Int)) = some c := by
            rw [hk, show ((a.length : Int) + (w.length : Int)) = ((a.length + w.length : Nat) : Int) by omega]
            refine at_nat ?_
            rw [hT, List.getElem?_append_right (by omega), Nat.add_sub_cancel_left, List.getElem?_append_right (by omega), Nat.sub_self]
            rfl
          have h3 := hb c r rfl
          unfold inN at h3
          simp (disch := assumption) [h1, h2, h3]) C.fuel w.length ⟨[.val (.str T), .val (.int k), .val (.int k), .no, .no, .no], S⟩ ⟨0, by simp, by simp⟩ (by omega)
  rw [e, q]
theorem cutTn {T a r : List Nat} {k j : Int} (n : Nat) (h : T = a ++ r) (hk : k = a.length) (hj : j = k + n) : cut T (some k) (some j) = r.take n := by
  subst h hj hk
  rw [show ((a.length : Int) + (n : Int)) = ((a.length + n : Nat) : Int) by omega, cut_nat]
  simp
theorem wd_hd : ∀ t : Tm, Ok t → ∃ d r, wd t = d :: r ∧ d ≠ 43
  | .letter c, h => ⟨c, [], rfl, by have := h.1; omega⟩
  | .nothing, _ => ⟨48, [], rfl, by decide⟩
  | .take p q t, _ => by
    obtain ⟨c, r, e, h⟩ := num_hd p q
    exact ⟨c, r ++ [91] ++ wd t ++ [93], by simp [wd, e], by omega⟩
  | .two k x y, _ => ⟨40, wd x ++ gap k ++ wd y ++ [41], by simp [wd], by decide⟩
theorem term_sp : ∀ (t : Tm) (n : Nat) (T a b : List Nat) (S : List O) (k : Int), Ok t → 2 * ht t ≤ n → T = a ++ (wd t ++ b) → k = a.length → T.length ≤ 1000000 → Fr b →
    (cl (n + 3)).call 5 [.str T, .int k] S = .ok (.tup [enc t, .int (k + (wd t).length)]) S
  | .letter c, n, T, a, b, S, k, ok, hn, hT, hk, hl, hb => by
    have hL : T.length ≤ LIM := by show _ ≤ 16000000; omega
    have h1 : cut T (some k) (some (k + 1)) = [c] := cutT1 (r := b) hT hk
    have hc : c ≠ 40 := by have := ok.1; omega
    have hm : c = 97 ∨ c = 98 ∨ c = 99 ∨ c = 100 ∨ c = 101 ∨ c = 102 ∨ c = 103 ∨ c = 104 ∨ c = 105 ∨ c = 106 ∨ c = 107 ∨ c = 108 ∨ c = 109 ∨ c = 110 ∨ c = 111 ∨ c = 112 ∨ c = 113 ∨ c = 114 ∨ c = 115 ∨ c = 116 ∨ c = 117 ∨ c = 118 ∨ c = 119 ∨ c = 120 ∨ c = 121 ∨ c = 122 := by have := ok.1; have := ok.2; omega
    rw [callE, at_term_at, run1 _ _ _ _ rfl]
    simp (disch := assumption) [fn_term_at, bd_term_at, List.replicate, h1, hc, hm, enc, wd]
  | .nothing, n, T, a, b, S, k, ok, hn, hT, hk, hl, hb => by
    have hL : T.length ≤ LIM := by show _ ≤ 16000000; omega
    have h1 : cut T (some k) (some (k + 1)) = [48] := cutT1 (r := b) hT hk
    have hs := scan (cl (n + 1)) T a [48] b S k hT hk hl (fun c hc => by simp at hc; subst hc; simp [inN]) (fun c r e => by have := hb c r e; unfold inN; omega) (by decide) rfl
    have h2 : cut T (some (k + 1)) (some (k + 1 + 1)) ≠ [91] := by
      cases b with
      | nil => rw [cutT0 (a := a ++ [48]) (by rw [hT]; simp [wd]) (by rw [hk]; simp only [List.length_append, List.length_cons, List.length_nil]; omega)]; simp
      | cons c r =>
        rw [cutT1 (a := a ++ [48]) (c := c) (r := r) (by rw [hT]; simp [wd]) (by rw [hk]; simp only [List.length_append, List.length_cons, List.length_nil]; omega)]
        have := hb c r rfl
        simp; omega
    have hq : (cl (n + 2)).call 3 [.str T, .int k] S = .ok (.tup [enc .nothing, .int (k + 1)]) S := by
      rw [callE, at_taken_at, run1 _ _ _ _ rfl]
      simp (disch := assumption) [fn_taken_at, bd_taken_at, List.replicate, hs, h1, h2, enc]
    rw [callE, at_term_at, run1 _ _ _ _ rfl]
    simp (disch := assumption) [fn_term_at, bd_term_at, List.replicate, h1, hq, wd]
  | .take p q t, n, T, a, b, S, k, ok, hn, hT, hk, hl, hb => by
    simp only [ht] at hn
    obtain ⟨m, rfl⟩ : ∃ m, n = m + 2 := ⟨n - 2, by omega⟩
    have hL : T.length ≤ LIM := by show _ ≤ 16000000; omega
    obtain ⟨c, r, e, hc⟩ := num_hd p q
    have hT2 : T = a ++ (num p q ++ (91 :: (wd t ++ (93 :: b)))) := by rw [hT]; simp [wd]
    have h1 : cut T (some k) (some (k + 1)) = [c] := cutT1 (r := r ++ (91 :: (wd t ++ (93 :: b)))) (by rw [hT2, e]; rfl) hk
    have hnl := num_len ok.1
    have hs := scan (cl (m + 3)) T a (num p q) (91 :: (wd t ++ (93 :: b))) S k hT2 hk hl (fun c hc => inN_num hc) (fun c r e => by cases e; unfold inN; omega) (by omega) rfl
    have hw : cut T (some k) (some (k + ((num p q).length : Int))) = num p q := cutT hT2 hk rfl
    have h2 : cut T (some (k + ((num p q).length : Int))) (some (k + ((num p q).length : Int) + 1)) = [91] := cutT1 (a := a ++ num p q) (r := wd t ++ (93 :: b)) (by rw [hT2]; simp) (by rw [hk]; simp only [List.length_append, List.length_cons, List.length_nil]; omega)
    have h3 := number_sp (m + 1) p q S ok.1
    have h4 := term_sp t m T (a ++ num p q ++ [91]) (93 :: b) S (k + ((num p q).length : Int) + 1) ok.2 (by omega) (by rw [hT2]; simp) (by rw [hk]; simp only [List.length_append, List.length_cons, List.length_nil]; omega) hl (fun c r e => by cases e; omega)
    have h5 : cut T (some (k + ((num p q).length : Int) + 1 + ((wd t).length : Int))) (some (k + ((num p q).length : Int) + 1 + ((wd t).length : Int) + 1)) = [93] := cutT1 (a := a ++ num p q ++ [91] ++ wd t) (r := b) (by rw [hT2]; simp) (by rw [hk]; simp only [List.length_append, List.length_cons, List.length_nil]; omega)
    have hq : (cl (m + 4)).call 3 [.str T, .int k] S = .ok (.tup [enc (.take p q t), .int (k + (wd (.take p q t)).length)]) S := by
      rw [callE, at_taken_at, run1 _ _ _ _ rfl]
      simp (disch := assumption) [fn_taken_at, bd_taken_at, List.replicate, hs, hw, h2, h3, h4, h5, enc]
      simp [wd]
      omega
    have n1 : c ≠ 40 := by omega
    have n2 : ¬ (c = 97 ∨ c = 98 ∨ c = 99 ∨ c = 100 ∨ c = 101 ∨ c = 102 ∨ c = 103 ∨ c = 104 ∨ c = 105 ∨ c = 106 ∨ c = 107 ∨ c = 108 ∨ c = 109 ∨ c = 110 ∨ c = 111 ∨ c = 112 ∨ c = 113 ∨ c = 114 ∨ c = 115 ∨ c = 116 ∨ c = 117 ∨ c = 118 ∨ c = 119 ∨ c = 120 ∨ c = 121 ∨ c = 122) := by omega
    rw [callE, at_term_at, run1 _ _ _ _ rfl]
    simp (disch := assumption) [fn_term_at, bd_term_at, List.replicate, h1, n1, n2, hq]
  | .two kd x y, n, T, a, b, S, k, ok, hn, hT, hk, hl, hb => by
    simp only [ht] at hn
    obtain ⟨m, rfl⟩ : ∃ m, n = m + 2 := ⟨n - 2, by omega⟩
    have hL : T.length ≤ LIM := by show _ ≤ 16000000; omega
    have hT2 : T = a ++ (40 :: (wd x ++ (gap kd ++ (wd y ++ (41 :: b))))) := by rw [hT]; simp [wd]
    have h1 : cut T (some k) (some (k + 1)) = [40] := cutT1 hT2 hk
    have hL1 : ([32] : List Nat).length ≤ LIM := by show _ ≤ 16000000; decide
    have hL3 : ([32,43,32] : List Nat).length ≤ LIM := by show _ ≤ 16000000; decide
    have hg : ∀ c r, gap kd ++ (wd y ++ (41 :: b)) = c :: r → c = 32 := fun c r e => by
      cases kd <;> simp [gap] at e <;> exact e.1.symm
    have hx := term_sp x m T (a ++ [40]) (gap kd ++ (wd y ++ (41 :: b))) S (k + 1) ok.1 (by omega) (by rw [hT2]; simp) (by rw [hk]; simp only [List.length_append, List.length_cons, List.length_nil]; omega) hl (fun c r e => .inl (hg c r e))
    have hy := term_sp y m T (a ++ [40] ++ wd x ++ gap kd) (41 :: b) S (k + 1 + ((wd x).length : Int) + ((gap kd).length : Int)) ok.2 (by omega) (by rw [hT2]; simp) (by rw [hk]; simp only [List.length_append, List.length_cons, List.length_nil]; omega) hl (fun c r e => by cases e; omega)
    have h2 : cut T (some (k + 1 + ((wd x).length : Int))) (some (k + 1 + ((wd x).length : Int) + ((gap kd).length : Int))) = gap kd := cutT (a := a ++ [40] ++ wd x) (r := wd y ++ (41 :: b)) (by rw [hT2]; simp) (by rw [hk]; simp only [List.length_append, List.length_cons, List.length_nil]; omega) rfl
    have h5 : cut T (some (k + 1 + ((wd x).length : Int) + ((gap kd).length : Int) + ((wd y).length : Int))) (some (k + 1 + ((wd x).length : Int) + ((gap kd).length : Int) + ((wd y).length : Int) + 1)) = [41] := cutT1 (a := a ++ [40] ++ wd x ++ gap kd ++ wd y) (r := b) (by rw [hT2]; simp) (by rw [hk]; simp only [List.length_append, List.length_cons, List.length_nil]; omega)
    have hq : (cl (m + 4)).call 4 [.str T, .int (k + 1)] S = .ok (.tup [enc (.two kd x y), .int (k + (wd (.two kd x y)).length)]) S := by
      rw [callE, at_pair_at, run1 _ _ _ _ rfl]
      cases kd with
      | true =>
        have hgl : ((gap true).length : Int) = 1 := rfl
        have hgv : gap true = [32] := rfl
        rw [hgl] at h2 hy h5
        rw [hgv] at h2
        obtain ⟨d, r, ed, hd⟩ := wd_hd y ok.2
        have h3 : cut T (some (k + 1 + ((wd x).length : Int))) (some (k + 1 + ((wd x).length : Int) + 3)) ≠ [32,43,32] := by
          have hcc : cut T (some (k + 1 + ((wd x).length : Int))) (some (k + 1 + ((wd x).length : Int) + 3)) = (32 :: d :: (r ++ (41 :: b))).take 3 := cutTn (a := a ++ [40] ++ wd x) 3 (by rw [hT2, ed]; simp [gap]) (by rw [hk]; simp only [List.length_append, List.length_cons, List.length_nil]; omega) rfl
          rw [hcc]
          simp
          intro e; exact absurd e hd
        simp (disch := assumption) [fn_pair_at, bd_pair_at, List.replicate, hx, h3, enc, kindL, h2, hy, h5]
        simp [wd, gap]
        omega
      | false =>
        have hgl : ((gap false).length : Int) = 3 := rfl
        have hgv : gap false = [32,43,32] := rfl
        rw [hgl] at h2 hy h5
        rw [hgv] at h2
        simp (disch := assumption) [fn_pair_at, bd_pair_at, List.replicate, hx, h2, hy, h5, enc, kindL]
        simp [wd, gap]
        omega
    rw [callE, at_term_at, run1 _ _ _ _ rfl]
    simp (disch := assumption) [fn_term_at, bd_term_at, List.replicate, h1, hq]
end K85

namespace K85
open PySem Tp
theorem read_sp (t : Tm) (n : Nat) (S : List O) (ok : Ok t) (hn : 2 * ht t ≤ n) (hl : (wd t).length ≤ 1000000) : (cl (n + 4)).call 6 [.str (wd t)] S = .ok (enc t) S := by
  have h := term_sp t n (wd t) [] [] S 0 ok hn (by simp) rfl hl (fun c r e => by cases e)
  have hL : (wd t).length ≤ LIM := by show _ ≤ 16000000; omega
  rw [callE, at_read_term, run1 _ _ _ _ rfl]
  rw [Int.zero_add] at h
  simp (disch := assumption) [fn_read_term, bd_read_term, List.replicate, h]
structure Oth (n : Nat) (S S' : List O) : Prop where
  l : S'.length = S.length
  o : ∀ j, j ≠ n → S'[j]? = S[j]?
theorem Oth.refl (n : Nat) (S : List O) : Oth n S S := ⟨rfl, fun _ _ => rfl⟩
theorem Oth.trans {n : Nat} {S S1 S2 : List O} (a : Oth n S S1) (b : Oth n S1 S2) : Oth n S S2 := ⟨b.l.trans a.l, fun j h => (b.o j h).trans (a.o j h)⟩
theorem draw (k n : Nat) (m : Int) (S : List O) (T : Int) (W : Well S n T) (hT : T ≤ 10 ^ 9) (hm : 0 < m) (hm2 : m < 10 ^ 9) :
    ∃ (v : Int) (S' : List O), (cl (k + 1)).call 11 [.cell n, .int m] S = .ok (.int v) S' ∧ 0 ≤ v ∧ v < m ∧ Well S' n (T + 1) ∧ Oth n S S' := by
  obtain ⟨v, S', h1, h2, h3, h4, h5, h6⟩ := dip_sp k n m S T W hT hm hm2
  exact ⟨v, S', h1, h2, h3, h4, h5, h6⟩
theorem Well.up {S : List O} {n : Nat} {T T' : Int} (h : Well S n T) (ht : T ≤ T') : Well S n T' := by
  obtain ⟨a, b, c, h1, h2, h3, h4, h5, h6⟩ := h
  exact ⟨a, b, c, h1, h2, h3, h4, h5, by omega⟩
theorem gcd_step (x y : Int) (hx : 0 ≤ x) (hy : 0 ≤ y) : Int.gcd (y % x) x = Int.gcd x y := by
  obtain ⟨a, rfl⟩ := Int.eq_ofNat_of_zero_le hx
  obtain ⟨b, rfl⟩ := Int.eq_ofNat_of_zero_le hy
  show Nat.gcd ((b : Int) % (a : Int)).natAbs a = Nat.gcd a b
  rw [Nat.gcd_rec a b]
  rfl
theorem common_sp (k : Nat) (p q : Int) (S : List O) (hq : 0 ≤ q) (hp : -50000 < p) (hp2 : p < 50000) : (cl (k + 1)).call 12 [.int p, .int q] S = .ok (.int (Int.gcd p q)) S := by
  obtain ⟨st', e, he⟩ := whlB_ind (C := cl k) (t := .cmp .Gt (.var 0) (.cst (.int 0))) (b := .cons (.par 0 1 (.bin .Mod (.blt .int (.cons (.var 1) .nil)) (.var 0)) (.var 0)) .nil)
    (fun m st => ∃ x y : Int, 0 ≤ x ∧ 0 ≤ y ∧ x.toNat = m ∧ Int.gcd x y = Int.gcd p q ∧ st = ⟨[.val (.int x), .val (.int y)], S⟩) (fun st => ∃ y : Int, (y : Int) = (Int.gcd p q : Int) ∧ st = ⟨[.val (.int 0), .val (.int y)], S⟩)
    (fun m st ⟨x, y, hx, hy, hm, hg, hst⟩ => by
      subst hst
      by_cases h0 : 0 < x
      · right
        have hmod := Int.emod_nonneg y (b := x) (by omega)
        have hmod2 := Int.emod_lt_of_pos y h0
        refine ⟨⟨[.val (.int x), .val (.int y)], S⟩, ⟨[.val (.int (y % x)), .val (.int x)], S⟩, (y % x).toNat, ?_, ?_, by omega, y % x, x, hmod, hx, rfl, ?_, rfl⟩
        · simp [h0]
        · simp [h0]
        · rw [← hg]
          exact gcd_step x y hx hy
      · left
        have : x = 0 := by omega
        subst this
        refine ⟨⟨[.val (.int 0), .val (.int y)], S⟩, by simp, y, ?_, rfl⟩
        rw [← hg]; simp; omega) 100000 (if p < 0 then -p else p).toNat ⟨[.val (.int (if p < 0 then -p else p)), .val (.int q)], S⟩ ⟨_, _, by split <;> omega, hq, rfl, by split <;> simp, rfl⟩ (by split <;> omega)
  obtain ⟨y, hy, rfl⟩ := he
  rw [callE, at__law_common, run1 _ _ _ _ rfl]
  have hf : (cl k).fuel = 100000 := rfl
  simp [fn__law_common, bd__law_common, List.replicate, hf, e, hy]
theorem pair_sp (k n : Nat) (S : List O) (T : Int) (W : Well S n T) (hT : T + 10 ≤ 10 ^ 9) :
    ∃ (p q : Int) (S' : List O), (cl (k + 2)).call 13 [.cell n] S = .ok (.tup [.int p, .int q]) S' ∧ NumOk p q ∧ Well S' n (T + 6) ∧ Oth n S S' := by
  obtain ⟨m, S1, e1, m1, m2, W1, O1⟩ := draw k n 6 S T W (by omega) (by omega) (by omega)
  -- the part above
  obtain ⟨A, S2, eA, hA, hA1, hA2, W2, O2⟩ : ∃ (A : Int) (S2 : List O), ev (cl (k + 1)) (.ife (.cmp .Lt (.var 1) (.cst (.int 2))) (.var 1) (.bin .Add (.cst (.int 1)) (.call 11 (.cons (.var 0) (.cons (.sub (.lst (.cons (.cst (.int 9)) (.cons (.cst (.int 99)) (.cons (.cst (.int 9999)) .nil)))) (.bin .FloorDiv (.var 1) (.cst (.int 2)))) .nil))))) .v ⟨[.val (.cell n), .val (.int m), .no, .no, .no], S1⟩ = .ok (.int A) ⟨[.val (.cell n), .val (.int m), .no, .no, .no], S2⟩ ∧ 0 ≤ A ∧ A ≤ 20000 ∧ (A = 0 → m = 0) ∧ Well S2 n (T + 2) ∧ Oth n S1 S2 := by
    by_cases hm : m < 2
    · exact ⟨m, S1, by simp [hm], m1, by omega, fun h => h, W1.up (by omega), Oth.refl _ _⟩
    · have hd : divOk 2 = true := divOk_lt (by omega) (by omega)
      obtain ⟨X, hX, x1, x2⟩ : ∃ X : Int, L2.atI [D.int 9, .int 99, .int 9999] (m / 2) = some (.int X) ∧ 0 < X ∧ X < 10000 := by
        have : m / 2 = 1 ∨ m / 2 = 2 := by omega
        rcases this with h | h <;> rw [h]
        · exact ⟨99, at_1 _ _ _, by omega, by omega⟩
        · exact ⟨9999, at_2 _ _ _ _, by omega, by omega⟩
      obtain ⟨v, S2, e2, v1, v2, W2, O2⟩ := draw k n X S1 _ W1 (by omega) x1 (by omega)
      exact ⟨1 + v, S2, by simp [hm, hd, hX, e2], by omega, by omega, by omega, W2.up (by omega), O2⟩
  obtain ⟨B, S3, eB, hB, hB1, hB2, W3, O3⟩ : ∃ (B : Int) (S3 : List O), ev (cl (k + 1)) (.ife (.or (.cmp .Eq (.var 1) (.cst (.int 0))) (.cmp .Eq (.call 11 (.cons (.var 0) (.cons (.cst (.int 3)) .nil))) (.cst (.int 0)))) (.cst (.int 1)) (.bin .Add (.cst (.int 1)) (.call 11 (.cons (.var 0) (.cons (.sub (.lst (.cons (.cst (.int 9)) (.cons (.cst (.int 9999)) .nil))) (.call 11 (.cons (.var 0) (.cons (.cst (.int 2)) .nil)))) .nil))))) .v ⟨[.val (.cell n), .val (.int m), .val (.int A), .no, .no], S2⟩ = .ok (.int B) ⟨[.val (.cell n), .val (.int m), .val (.int A), .no, .no], S3⟩ ∧ 1 ≤ B ∧ B ≤ 20000 ∧ (m = 0 → B = 1) ∧ Well S3 n (T + 5) ∧ Oth n S2 S3 := by
    by_cases hm : m = 0
    · exact ⟨1, S2, by simp [hm], by omega, by omega, fun _ => rfl, W2.up (by omega), Oth.refl _ _⟩
    · obtain ⟨v, S3, e3, v1, v2, W3, O3⟩ := draw k n 3 S2 _ W2 (by omega) (by omega) (by omega)
      by_cases hv : v = 0
      · exact ⟨1, S3, by simp [hm, e3, hv], by omega, by omega, fun _ => rfl, W3.up (by omega), O3⟩
      · obtain ⟨u, S4, e4, u1, u2, W4, O4⟩ := draw k n 2 S3 _ W3 (by omega) (by omega) (by omega)
        obtain ⟨X, hX, x1, x2⟩ : ∃ X : Int, L2.atI [D.int 9, .int 9999] u = some (.int X) ∧ 0 < X ∧ X < 10000 := by
          have : u = 0 ∨ u = 1 := by omega
          rcases this with h | h <;> rw [h]
          · exact ⟨9, at_0 _ _, by omega, by omega⟩
          · exact ⟨9999, at_1 _ _ _, by omega, by omega⟩
        obtain ⟨z, S5, e5, z1, z2, W5, O5⟩ := draw k n X S4 _ W4 (by omega) x1 (by omega)
        exact ⟨1 + z, S5, by simp [hm, e3, hv, e4, hX, e5], by omega, by omega, fun h => absurd h hm, W5.up (by omega), (O3.trans O4).trans O5⟩
  obtain ⟨s, S4, e4, s1, s2, W4, O4⟩ := draw k n 3 S3 _ W3 (by omega) (by omega) (by omega)
  -- the sign
  have fin : ∀ C : Int, (C = A ∨ C = -A) → ∃ p q g : Int, (cl (k + 1)).call 12 [.int C, .int B] S4 = .ok (.int g) S4 ∧ divOk g = true ∧ C / g = p ∧ B / g = q ∧ NumOk p q := by
    intro C hC
    have hg0 : 0 < Int.gcd C B := Int.gcd_pos_of_ne_zero_right _ (by omega)
    have hgB : (Int.gcd C B : Int) ∣ B := Int.gcd_dvd_right _ _
    have hgC : (Int.gcd C B : Int) ∣ C := Int.gcd_dvd_left _ _
    have hle : (Int.gcd C B : Int) ≤ B := Int.le_of_dvd (by omega) hgB
    refine ⟨_, _, _, common_sp k C B S4 (by omega) (by omega) (by omega), divOk_lt (by omega) (by omega), rfl, rfl, ?_⟩
    obtain ⟨c, hc⟩ := hgC
    obtain ⟨b, hb⟩ := hgB
    generalize hG : Int.gcd C B = g at *
    have h1 : C / (g : Int) = c := by rw [hc]; exact Int.mul_ediv_cancel_left _ (by omega)
    have h2 : B / (g : Int) = b := by rw [hb]; exact Int.mul_ediv_cancel_left _ (by omega)
    rw [h1, h2]
    have hb0 : 0 < b := by
      rcases Int.lt_or_le 0 b with h | h
      · exact h
      · have : (g : Int) * b ≤ 0 := Int.mul_nonpos_of_nonneg_of_nonpos (by omega) h
        omega
    have hbB : b ≤ B := by
      rw [hb]
      have : 1 * b ≤ (g : Int) * b := Int.mul_le_mul_of_nonneg_right (by omega) (by omega)
      omega
    have hcC : c.natAbs ≤ C.natAbs := by
      rw [hc, Int.natAbs_mul]
      have : 1 * c.natAbs ≤ (g : Int).natAbs * c.natAbs := Nat.mul_le_mul_right _ (by omega)
      omega
    have hgcd : Int.gcd c b = 1 := by
      have e : Int.gcd ((g : Int) * c) ((g : Int) * b) = (g : Int).natAbs * Int.gcd c b := Int.gcd_mul_left ..
      rw [← hc, ← hb, hG] at e
      have : (g : Int).natAbs = g := rfl
      rw [this] at e
      exact Nat.eq_of_mul_eq_mul_left hg0 (by omega)
    exact ⟨by omega, by rw [hgcd]; rfl, by omega, by omega, by omega⟩
  by_cases hs : s = 0
  · obtain ⟨p, q, g, f1, f2, f3, f4, ok⟩ := fin (-A) (.inr rfl)
    refine ⟨p, q, S4, ?_, ok, W4.up (by omega), ((O1.trans O2).trans O3).trans O4⟩
    rw [callE, at__law_pair, run1 _ _ _ _ rfl]
    simp [-ev_ife_v, fn__law_pair, bd__law_pair, List.replicate, e1, eA, eB, e4, hs, f1, f2, f3, f4]
  · obtain ⟨p, q, g, f1, f2, f3, f4, ok⟩ := fin A (.inl rfl)
    refine ⟨p, q, S4, ?_, ok, W4.up (by omega), ((O1.trans O2).trans O3).trans O4⟩
    rw [callE, at__law_pair, run1 _ _ _ _ rfl]
    simp [-ev_ife_v, fn__law_pair, bd__law_pair, List.replicate, e1, eA, eB, e4, hs, f1, f2, f3, f4]
end K85

namespace K85
open PySem Tp
theorem at_last {α : Type} (l : List α) (c : α) : L2.atI (l ++ [c]) (-1) = some c := by
  simp only [L2.atI, L2.ixN]
  rw [if_neg (by omega), if_pos (by simp only [List.length_append, List.length_cons, List.length_nil]; omega)]
  have : (-1 + ((l ++ [c]).length : Int)).toNat = l.length := by simp only [List.length_append, List.length_cons, List.length_nil]; omega
  rw [Option.bind_some, this]
  simp
theorem filt_len (c : Nat) : ∀ l : List Nat, l.Nodup → c ∈ l → (l.filter fun d => !decide (d = c)).length + 1 = l.length
  | [], _, h => by cases h
  | d :: r, hn, h => by
    obtain ⟨h1, h2⟩ := List.nodup_cons.mp hn
    by_cases e : d = c
    · subst e
      have : r.filter (fun x => !decide (x = d)) = r := List.filter_eq_self.mpr fun x hx => by
        have : x ≠ d := fun e => h1 (e ▸ hx)
        simp [this]
      simp [this]
    · have hc : c ∈ r := by
        rcases List.mem_cons.mp h with h | h
        · exact absurd h.symm e
        · exact h
      have := filt_len c r h2 hc
      simp [e]
      omega
theorem rpl_sp (a x : Sl) (s t : List Nat) (c : Nat) (S : List O) (h1 : s.length ≤ 1000) (h2 : t.length ≤ 1000) : rplV 1 2 1 ⟨[a, .val (.str s), .val (.str (t ++ [c])), x], S⟩ = some (.str (s.filter fun d => !decide (d = c))) := by
  show (if s.length ≤ 100000 ∧ (t ++ [c]).length ≤ 100000 then (L2.atI (t ++ [c]) (-((1 : Nat) : Int))).map fun c => D.str (s.filter fun d => !decide (d = c)) else none) = _
  rw [if_pos ⟨by omega, by simp only [List.length_append, List.length_cons, List.length_nil]; omega⟩]
  have : -((1 : Nat) : Int) = -1 := rfl
  rw [this, at_last]
  rfl
structure Lts (L : List Nat) : Prop where
  ne : L ≠ []
  len : L.length ≤ 100
  rg : ∀ c ∈ L, 97 ≤ c ∧ c ≤ 122
theorem Lts.at {L : List Nat} (h : Lts L) {v : Int} (h0 : 0 ≤ v) (h1 : v < (L.length : Int)) : ∃ c, L2.atI L v = some c ∧ 97 ≤ c ∧ c ≤ 122 := by
  obtain ⟨j, rfl⟩ := Int.eq_ofNat_of_zero_le h0
  have hj : j < L.length := by omega
  exact ⟨L[j], at_nat (List.getElem?_eq_getElem hj), h.rg _ (List.getElem_mem hj)⟩
theorem Lts.pos {L : List Nat} (h : Lts L) : 0 < (L.length : Int) := by
  have := List.length_pos_iff.mpr h.ne
  omega
theorem letters_sp (k n : Nat) (S : List O) (T : Int) (W : Well S n T) (hT : T + 10 ≤ 10 ^ 9) :
    ∃ (L : List Nat) (S' : List O), (cl (k + 2)).call 17 [.cell n] S = .ok (.str L) S' ∧ Lts L ∧ Well S' n (T + 6) ∧ Oth n S S' := by
  obtain ⟨v, S1, e1, v1, v2, W1, O1⟩ := draw k n 4 S T W (by omega) (by omega) (by omega)
  have hsm : small62 (1 + v) = true := by unfold small62; exact decide_eq_true (by omega)
  obtain ⟨st', e, hst⟩ := forB_ind (C := cl (k + 1)) (tg := .nm 3) (b := .cons (.asg (.nm 2) (.bin .Add (.var 2) (.subV 1 (.call 11 (.cons (.var 0) (.cons (.blt .len (.cons (.var 1) .nil)) .nil)))))) (.cons (.asg (.nm 1) (.rpl 1 2 1)) .nil))
    (fun j st => ∃ (left found : List Nat) (x : Sl) (S' : List O), st = ⟨[.val (.cell n), .val (.str left), .val (.str found), x], S'⟩ ∧ left.Nodup ∧ left.length + j = 26 ∧ (∀ c ∈ left, 97 ≤ c ∧ c ≤ 122) ∧ found.length = j ∧ (∀ c ∈ found, 97 ≤ c ∧ c ≤ 122) ∧ Well S' n (T + 1 + j) ∧ Oth n S S')
    (rangeL 0 (1 + v).toNat) (fun j d st hd ⟨left, found, x, S2, hst, h1, h2, h3, h4, h5, h6, h7⟩ => by
      subst hst
      obtain ⟨rfl, hj⟩ := rangeL_get hd
      have hj4 : j < 4 := by omega
      obtain ⟨u, S3, e3, u1, u2, W3, O3⟩ := draw k n (left.length : Int) S2 _ h6 (by omega) (by omega) (by omega)
      have hL : left.length ≤ LIM := by show _ ≤ 16000000; omega
      have hL2 : found.length + ([0] : List Nat).length ≤ LIM := by show _ ≤ 16000000; simp; omega
      obtain ⟨c, hc, c1⟩ : ∃ c, L2.atI left u = some c ∧ c ∈ left := by
        obtain ⟨i, rfl⟩ := Int.eq_ofNat_of_zero_le u1
        have hi : i < left.length := by omega
        exact ⟨left[i], at_nat (List.getElem?_eq_getElem hi), List.getElem_mem hi⟩
      have hL3 : ∀ c : Nat, found.length + ([c] : List Nat).length ≤ LIM := fun c => by show _ ≤ 16000000; simp; omega
      have hf := filt_len c left h1 c1
      refine ⟨_, ⟨[.val (.cell n), .val (.str (left.filter fun d => !decide (d = c))), .val (.str (found ++ [c])), .val (.int (0 + (j : Int)))], S3⟩, rfl, ?_, left.filter fun d => !decide (d = c), found ++ [c], _, S3, rfl, List.Pairwise.filter _ h1, by omega, fun d hd => h3 d (List.mem_filter.mp hd).1, by simp [h4], ?_, W3.up (by omega), h7.trans O3⟩
      · have hrp := rpl_sp (.val (.cell n)) (.val (.int (j : Int))) left found c S3 (by omega) (by omega)
        simp (disch := first | assumption | exact hL3 _) [e3, hc, hrp]
      · intro d hd
        rcases List.mem_append.mp hd with hd | hd
        · exact h5 d hd
        · simp at hd; subst hd; exact h3 _ c1) ⟨[.val (.cell n), .val (.str [97,98,99,100,101,102,103,104,105,106,107,108,109,110,111,112,113,114,115,116,117,118,119,120,121,122]), .val (.str []), .no], S1⟩
      ⟨_, _, _, _, rfl, by decide, by decide, by decide, rfl, by simp, W1.up (by omega), O1⟩
  obtain ⟨left, found, x, S2, rfl, h1, h2, h3, h4, h5, h6, h7⟩ := hst
  rw [rangeL_len] at h4 h6
  refine ⟨found, S2, ?_, ⟨fun e => by rw [e] at h4; simp at h4; omega, by omega, h5⟩, h6.up (by omega), h7⟩
  rw [callE, at__law_letters, run1 _ _ _ _ rfl]
  simp [fn__law_letters, bd__law_letters, List.replicate, e1, hsm, e]
end K85

namespace K85
open PySem Tp
theorem kind_at {v : Int} (h0 : 0 ≤ v) (h1 : v < 2) : ∃ b, L2.atI [D.str [116,105,109,101,115], D.str [112,108,117,115]] v = some (.str (kindL b)) := by
  have : v = 0 ∨ v = 1 := by omega
  rcases this with h | h <;> rw [h]
  · exact ⟨true, at_0 _ _⟩
  · exact ⟨false, at_1 _ _ _⟩
def abc : List Nat := [97,98,99,100,101,102,103,104,105,106,107,108,109,110,111,112,113,114,115,116,117,118,119,120,121,122]
theorem lts_abc : Lts abc := ⟨by decide, by decide, by decide⟩
theorem wide_sp : ∀ (d k n : Nat) (S : List O) (T : Int), Well S n T → T + 2 * 2 ^ (d + 1) ≤ 10 ^ 9 →
    ∃ (t : Tm) (S' : List O), (cl (k + d + 2)).call 20 [.cell n, .int (d : Int)] S = .ok (enc t) S' ∧ Ok t ∧ ht t ≤ d + 1 ∧ (wd t).length + 5 ≤ 6 * 2 ^ d ∧ Well S' n (T + 2 ^ (d + 1) - 1) ∧ Oth n S S'
  | 0, k, n, S, T, W, hT => by
    obtain ⟨v, S1, e1, v1, v2, W1, O1⟩ := draw k n 26 S T W (by omega) (by omega) (by omega)
    obtain ⟨c, hc, c1⟩ := lts_abc.at v1 v2
    unfold abc at hc
    have hL : abc.length ≤ LIM := by show _ ≤ 16000000; decide
    unfold abc at hL
    refine ⟨.letter c, S1, ?_, c1, by simp [ht], by simp [wd], W1.up (by omega), O1⟩
    rw [callE, at__law_wide, run1 _ _ _ _ rfl]
    simp (disch := assumption) [fn__law_wide, bd__law_wide, List.replicate, e1, hc, enc]
  | d + 1, k, n, S, T, W, hT => by
    have hp : (2 : Int) ^ (d + 1 + 1) = 2 ^ (d + 1) * 2 := Int.pow_succ ..
    have hp0 : (0 : Int) < 2 ^ (d + 1) := Int.pow_pos (by omega)
    have hp1 : (2 : Int) ^ (d + 1) = 2 ^ d * 2 := Int.pow_succ ..
    have hp2 : (0 : Int) < 2 ^ d := Int.pow_pos (by omega)
    obtain ⟨v, S1, e1, v1, v2, W1, O1⟩ := draw (k + d + 1) n 2 S T W (by omega) (by omega) (by omega)
    obtain ⟨b, hb⟩ := kind_at v1 v2
    obtain ⟨x, S2, e2, x1, x2, x3, W2, O2⟩ := wide_sp d k n S1 _ W1 (by omega)
    obtain ⟨y, S3, e3, y1, y2, y3, W3, O3⟩ := wide_sp d k n S2 _ W2 (by omega)
    have h0 : ¬ ((d : Int) + 1 = 0) := by omega
    have hq : 2 ^ (d + 1) = 2 ^ d * 2 := Nat.pow_succ ..
    refine ⟨.two b x y, S3, ?_, ⟨x1, y1⟩, by simp [ht]; omega, ?_, W3.up (by omega), (O1.trans O2).trans O3⟩
    · rw [callE]
      show callF Φ fu (k + d + 2 + 1) 20 _ S = _
      rw [at__law_wide, run1 _ _ _ _ rfl]
      simp [fn__law_wide, bd__law_wide, List.replicate, e1, e2, e3, hb, h0, enc]
    · have hg : (gap b).length ≤ 3 := by cases b <;> decide
      rw [hq]
      generalize 2 ^ d = h at *
      simp only [wd, List.length_append, List.length_cons, List.length_nil]; omega
theorem Lts.last {L : List Nat} (h : Lts L) : ∃ c, L2.atI L (-1) = some c ∧ 97 ≤ c ∧ c ≤ 122 := by
  refine ⟨L.getLast h.ne, ?_, h.rg _ (List.getLast_mem h.ne)⟩
  have := at_last L.dropLast (L.getLast h.ne)
  rw [List.dropLast_concat_getLast h.ne] at this
  exact this
theorem chain_sp (k n : Nat) (L : List Nat) (hL : Lts L) (S : List O) (T : Int) (W : Well S n T) (hT : T + 300 ≤ 10 ^ 9) :
    ∃ (t : Tm) (S' : List O), (cl (k + 3)).call 19 [.cell n, .str L] S = .ok (enc t) S' ∧ Ok t ∧ ht t ≤ 20 ∧ (wd t).length ≤ 1000 ∧ Well S' n (T + 200) ∧ Oth n S S' := by
  obtain ⟨v, S1, e1, v1, v2, W1, O1⟩ := draw (k + 1) n 20 S T W (by omega) (by omega) (by omega)
  have hsm : small62 v = true := by unfold small62; exact decide_eq_true (by omega)
  have hLL : L.length ≤ LIM := by have := hL.len; show _ ≤ 16000000; omega
  obtain ⟨c0, hc0, c01⟩ := hL.at (v := 0) (by omega) hL.pos
  obtain ⟨cl', hcl, hcl1⟩ := hL.last
  obtain ⟨st', e, hst⟩ := forB_ind (C := cl (k + 2)) (tg := .nm 3) (b := .cons (.asg (.nm 4) (.sub (.lst (.cons (.tup (.cons (.cst (.str [108,101,116,116,101,114])) (.cons (.subV 1 (.neg (.cst (.int 1)))) .nil))) (.cons (.tup (.cons (.cst (.str [110,111,116,104,105,110,103])) .nil)) .nil))) (.blt .int (.cons (.cmp .Eq (.call 11 (.cons (.var 0) (.cons (.cst (.int 4)) .nil))) (.cst (.int 0))) .nil)))) (.cons (.asg (.nm 5) (.call 11 (.cons (.var 0) (.cons (.cst (.int 5)) .nil)))) (.cons (.ife (.cmp .Eq (.var 5) (.cst (.int 0))) (.cons (.asg (.nm 2) (.tup (.cons (.cst (.str [116,97,107,101])) (.cons (.call 13 (.cons (.var 0) .nil)) (.cons (.var 2) .nil))))) .nil) (.cons (.ife (.cmp .Lt (.var 5) (.cst (.int 3))) (.cons (.asg (.nm 2) (.tup (.cons (.sub (.lst (.cons (.cst (.str [116,105,109,101,115])) (.cons (.cst (.str [112,108,117,115])) .nil))) (.bin .Sub (.var 5) (.cst (.int 1)))) (.cons (.var 2) (.cons (.var 4) .nil))))) .nil) (.cons (.asg (.nm 2) (.tup (.cons (.sub (.lst (.cons (.cst (.str [116,105,109,101,115])) (.cons (.cst (.str [112,108,117,115])) .nil))) (.bin .Sub (.var 5) (.cst (.int 3)))) (.cons (.var 4) (.cons (.var 2) .nil))))) .nil)) .nil)) .nil)))
    (fun j st => ∃ (t : Tm) (x y z : Sl) (S' : List O), st = ⟨[.val (.cell n), .val (.str L), .val (enc t), x, y, z], S'⟩ ∧ Ok t ∧ ht t ≤ j + 1 ∧ (wd t).length ≤ 1 + 20 * j ∧ Well S' n (T + 1 + 8 * j) ∧ Oth n S S')
    (rangeL 0 v.toNat) (fun j d st hd ⟨t, x, y, z, S2, hst, h1, h2, h3, h4, h5⟩ => by
      subst hst
      obtain ⟨rfl, hj⟩ := rangeL_get hd
      have hj4 : j < 20 := by omega
      obtain ⟨u, S3, e3, u1, u2, W3, O3⟩ := draw (k + 1) n 4 S2 _ h4 (by omega) (by omega) (by omega)
      obtain ⟨m, S4, e4, m1, m2, W4, O4⟩ := draw (k + 1) n 5 S3 _ W3 (by omega) (by omega) (by omega)
      -- the leaf
      obtain ⟨lf, el, l1, l2, l3⟩ : ∃ lf : Tm, L2.atI [D.tup [.str [108,101,116,116,101,114], .str [cl']], D.tup [.str [110,111,116,104,105,110,103]]] (if u = 0 then 1 else 0) = some (enc lf) ∧ Ok lf ∧ ht lf = 1 ∧ (wd lf).length = 1 := by
        by_cases hu : u = 0
        · exact ⟨.nothing, by rw [if_pos hu]; exact at_1 _ _ _, trivial, rfl, rfl⟩
        · exact ⟨.letter cl', by rw [if_neg hu]; exact at_0 _ _, hcl1, rfl, rfl⟩
      by_cases hm0 : m = 0
      · obtain ⟨p, q, S5, e5, ok5, W5, O5⟩ := pair_sp k n S4 _ W4 (by omega)
        have := num_len ok5
        refine ⟨_, ⟨[.val (.cell n), .val (.str L), .val (enc (.take p q t)), .val (.int (0 + (j : Int))), .val (enc lf), .val (.int m)], S5⟩, rfl, ?_, .take p q t, _, _, _, S5, rfl, ⟨ok5, h1⟩, by simp [ht]; omega, ?_, W5.up (by omega), ((h5.trans O3).trans O4).trans O5⟩
        · simp (disch := assumption) [e3, e4, e5, hcl, el, hm0, enc]
        · simp only [wd, List.length_append, List.length_cons, List.length_nil]; omega
      · by_cases hm3 : m < 3
        · obtain ⟨b, hb⟩ := kind_at (v := m - 1) (by omega) (by omega)
          refine ⟨_, ⟨[.val (.cell n), .val (.str L), .val (enc (.two b t lf)), .val (.int (0 + (j : Int))), .val (enc lf), .val (.int m)], S4⟩, rfl, ?_, .two b t lf, _, _, _, S4, rfl, ⟨h1, l1⟩, by simp [ht]; omega, ?_, W4.up (by omega), (h5.trans O3).trans O4⟩
          · simp (disch := assumption) [e3, e4, hcl, el, hm0, hm3, hb, enc]
          · have hg : (gap b).length ≤ 3 := by cases b <;> decide
            simp only [wd, List.length_append, List.length_cons, List.length_nil]; omega
        · obtain ⟨b, hb⟩ := kind_at (v := m - 3) (by omega) (by omega)
          refine ⟨_, ⟨[.val (.cell n), .val (.str L), .val (enc (.two b lf t)), .val (.int (0 + (j : Int))), .val (enc lf), .val (.int m)], S4⟩, rfl, ?_, .two b lf t, _, _, _, S4, rfl, ⟨l1, h1⟩, by simp [ht]; omega, ?_, W4.up (by omega), (h5.trans O3).trans O4⟩
          · simp (disch := assumption) [e3, e4, hcl, el, hm0, hm3, hb, enc]
          · have hg : (gap b).length ≤ 3 := by cases b <;> decide
            simp only [wd, List.length_append, List.length_cons, List.length_nil]; omega) ⟨[.val (.cell n), .val (.str L), .val (enc (.letter c0)), .no, .no, .no], S1⟩
      ⟨.letter c0, _, _, _, _, rfl, c01, by simp [ht], by simp [wd], W1.up (by omega), O1⟩
  obtain ⟨t, x, y, z, S2, rfl, h1, h2, h3, h4, h5⟩ := hst
  rw [rangeL_len] at h2 h3 h4
  have hv : v.toNat ≤ 19 := by omega
  refine ⟨t, S2, ?_, h1, by omega, by omega, h4.up (by omega), h5⟩
  rw [callE, at__law_chain, run1 _ _ _ _ rfl]
  simp only [enc] at e
  simp (disch := assumption) [fn__law_chain, bd__law_chain, List.replicate, e1, hc0, hsm, e]
end K85

namespace K85
open PySem Tp
structure Oth2 (n m : Nat) (S S' : List O) : Prop where
  l : S'.length = S.length
  o : ∀ j, j ≠ n → j ≠ m → S'[j]? = S[j]?
theorem Oth2.trans {n m : Nat} {S S1 S2 : List O} (a : Oth2 n m S S1) (b : Oth2 n m S1 S2) : Oth2 n m S S2 := ⟨b.l.trans a.l, fun j h h' => (b.o j h h').trans (a.o j h h')⟩
theorem Oth.two {n : Nat} {S S' : List O} (a : Oth n S S') (m : Nat) : Oth2 n m S S' := ⟨a.l, fun j h _ => a.o j h⟩
theorem oth2_set (n m : Nat) (S : List O) (o : O) : Oth2 n m S (S.set m o) := ⟨by simp, fun j _ h => by rw [List.getElem?_set_ne (Ne.symm h)]⟩
theorem Well.set {S : List O} {n m : Nat} {T : Int} {o : O} (h : Well S n T) (hnm : n ≠ m) : Well (S.set m o) n T := by
  obtain ⟨a, b, c, h1, h2⟩ := h
  exact ⟨a, b, c, by rw [List.getElem?_set_ne (Ne.symm hnm)]; exact h1, h2⟩
theorem set_at {S : List O} {m : Nat} {o o' : O} (h : S[m]? = some o) : (S.set m o')[m]? = some o' := List.getElem?_set_self (List.getElem?_eq_some_iff.mp h).1
theorem tail_sp (L : List Nat) (hL : Lts L) (n m : Nat) (hnm : n ≠ m) (k : Nat) (deep most r v : Int) (S S2 : List O) (T : Int) (hR : S[m]? = some (.lst [.int r]))
    (e1 : (cl (k + 1)).call 11 [.cell n, .int 9] (S.set m (.lst [.int (r - 1)])) = .ok (.int v) S2) (W2 : Well S2 n (T + 1)) (O2 : Oth n (S.set m (.lst [.int (r - 1)])) S2) (hT : T + 20 ≤ 10 ^ 9)
    (hc : ¬ 1 < deep ∨ (1 < deep ∧ ¬ 2 ≤ r - 1) ∨ (1 < deep ∧ 2 ≤ r - 1 ∧ ¬ v < 6 ∧ ¬ v = 6)) :
    ∃ (t : Tm) (S' : List O), (cl (k + 2)).call 15 [.cell n, .cell m, .int deep, .int most, .str L] S = .ok (enc t) S' ∧ Ok t ∧ ht t = 1 ∧ (wd t).length = 1 ∧ Well S' n (T + 20) ∧ (∃ r', S'[m]? = some (.lst [.int r'])) ∧ Oth2 n m S S' := by
  have hR2 : S2[m]? = some (.lst [.int (r - 1)]) := by rw [O2.o m (Ne.symm hnm)]; exact set_at hR
  have o2 : Oth2 n m S S2 := (oth2_set n m S _).trans (O2.two m)
  have hLL : L.length ≤ LIM := by have := hL.len; show _ ≤ 16000000; omega
  have hpos := hL.pos
  have hlen := hL.len
  by_cases hm : most = 0
  · refine ⟨.nothing, S2, ?_, trivial, rfl, rfl, W2.up (by omega), ⟨_, hR2⟩, o2⟩
    rw [callE, at__law_term, run1 _ _ _ _ rfl]
    rcases hc with h | ⟨h, h'⟩ | ⟨h, h', h2, h3⟩
    · simp (disch := assumption) [fn__law_term, bd__law_term, List.replicate, vw_cell hR, hR, e1, vw_cell hR2, h, hm, enc]
    · simp (disch := assumption) [fn__law_term, bd__law_term, List.replicate, vw_cell hR, hR, e1, vw_cell hR2, h, h', hm, enc]
    · simp (disch := assumption) [fn__law_term, bd__law_term, List.replicate, vw_cell hR, hR, e1, vw_cell hR2, h, h', h2, h3, hm, enc]
  · by_cases h8 : v = 8
    · obtain ⟨u, S3, e3, u1, u2, W3, O3⟩ := draw k n 3 S2 _ W2 (by omega) (by omega) (by omega)
      have hR3 : S3[m]? = some (.lst [.int (r - 1)]) := by rw [O3.o m (Ne.symm hnm)]; exact hR2
      have n6 : ¬ (8 : Int) < 6 := by omega
      by_cases hu : u = 0
      · refine ⟨.nothing, S3, ?_, trivial, rfl, rfl, W3.up (by omega), ⟨_, hR3⟩, o2.trans (O3.two m)⟩
        rw [callE, at__law_term, run1 _ _ _ _ rfl]
        rcases hc with h | ⟨h, h'⟩ | ⟨h, h', h2, h3⟩
        · simp (disch := assumption) [fn__law_term, bd__law_term, List.replicate, vw_cell hR, hR, e1, vw_cell hR2, h, hm, h8, e3, hu, enc]
        · simp (disch := assumption) [fn__law_term, bd__law_term, List.replicate, vw_cell hR, hR, e1, vw_cell hR2, h, h', hm, h8, e3, hu, enc]
        · simp (disch := assumption) [fn__law_term, bd__law_term, List.replicate, vw_cell hR, hR, e1, vw_cell hR2, h, h', hm, h8, e3, hu, enc]
      · obtain ⟨w, S4, e4, w1, w2, W4, O4⟩ := draw k n (L.length : Int) S3 _ W3 (by omega) hpos (by omega)
        have hR4 : S4[m]? = some (.lst [.int (r - 1)]) := by rw [O4.o m (Ne.symm hnm)]; exact hR3
        obtain ⟨c, hc', c1⟩ := hL.at w1 w2
        refine ⟨.letter c, S4, ?_, c1, rfl, rfl, W4.up (by omega), ⟨_, hR4⟩, (o2.trans (O3.two m)).trans (O4.two m)⟩
        rw [callE, at__law_term, run1 _ _ _ _ rfl]
        rcases hc with h | ⟨h, h'⟩ | ⟨h, h', h2, h3⟩
        · simp (disch := assumption) [fn__law_term, bd__law_term, List.replicate, vw_cell hR, hR, e1, vw_cell hR2, h, hm, h8, e3, hu, e4, hc', enc]
        · simp (disch := assumption) [fn__law_term, bd__law_term, List.replicate, vw_cell hR, hR, e1, vw_cell hR2, h, h', hm, h8, e3, hu, e4, hc', enc]
        · simp (disch := assumption) [fn__law_term, bd__law_term, List.replicate, vw_cell hR, hR, e1, vw_cell hR2, h, h', hm, h8, e3, hu, e4, hc', enc]
    · obtain ⟨w, S4, e4, w1, w2, W4, O4⟩ := draw k n (L.length : Int) S2 _ W2 (by omega) hpos (by omega)
      have hR4 : S4[m]? = some (.lst [.int (r - 1)]) := by rw [O4.o m (Ne.symm hnm)]; exact hR2
      obtain ⟨c, hc', c1⟩ := hL.at w1 w2
      refine ⟨.letter c, S4, ?_, c1, rfl, rfl, W4.up (by omega), ⟨_, hR4⟩, o2.trans (O4.two m)⟩
      rw [callE, at__law_term, run1 _ _ _ _ rfl]
      rcases hc with h | ⟨h, h'⟩ | ⟨h, h', h2, h3⟩
      · simp (disch := assumption) [fn__law_term, bd__law_term, List.replicate, vw_cell hR, hR, e1, vw_cell hR2, h, hm, h8, e4, hc', enc]
      · simp (disch := assumption) [fn__law_term, bd__law_term, List.replicate, vw_cell hR, hR, e1, vw_cell hR2, h, h', hm, h8, e4, hc', enc]
      · simp (disch := assumption) [fn__law_term, bd__law_term, List.replicate, vw_cell hR, hR, e1, vw_cell hR2, h, h', h2, h3, hm, h8, e4, hc', enc]
end K85

namespace K85
open PySem Tp
theorem tree_sp (L : List Nat) (hL : Lts L) (n m : Nat) (hnm : n ≠ m) : ∀ (d k : Nat) (deep most r : Int) (S : List O) (T : Int), deep = (d : Int) + 1 → Well S n T → S[m]? = some (.lst [.int r]) → 0 ≤ most → most ≤ 100 → T + 20 * 2 ^ (d + 1) ≤ 10 ^ 9 →
    ∃ (t : Tm) (S' : List O), (cl (k + d + 4)).call 15 [.cell n, .cell m, .int deep, .int most, .str L] S = .ok (enc t) S' ∧ Ok t ∧ ht t ≤ d + 1 ∧ (wd t).length + 5 ≤ 25 * 2 ^ d ∧ Well S' n (T + 20 * 2 ^ (d + 1) - 20) ∧ (∃ r', S'[m]? = some (.lst [.int r'])) ∧ Oth2 n m S S'
  | 0, k, deep, most, r, S, T, hd, W, hR, hm0, hm1, hT => by
    obtain ⟨v, S2, e1, v1, v2, W2, O2⟩ := draw (k + 2) n 9 (S.set m (.lst [.int (r - 1)])) T (W.set hnm) (by omega) (by omega) (by omega)
    obtain ⟨t, S', e, h1, h2, h3, h4, h5, h6⟩ := tail_sp L hL n m hnm (k + 2) deep most r v S S2 T hR e1 W2 O2 (by omega) (.inl (by omega))
    exact ⟨t, S', e, h1, by omega, by omega, h4.up (by omega), h5, h6⟩
  | d + 1, k, deep, most, r, S, T, hd, W, hR, hm0, hm1, hT => by
    have hp : (2 : Int) ^ (d + 1 + 1) = 2 ^ (d + 1) * 2 := Int.pow_succ ..
    have hp0 : (0 : Int) < 2 ^ (d + 1) := Int.pow_pos (by omega)
    have hp1 : (2 : Int) ^ (d + 1) = 2 ^ d * 2 := Int.pow_succ ..
    have hp2 : (0 : Int) < 2 ^ d := Int.pow_pos (by omega)
    have hq : 2 ^ (d + 1) = 2 ^ d * 2 := Nat.pow_succ ..
    have hq0 : 0 < 2 ^ d := Nat.pow_pos (by omega)
    have hdeep : 1 < deep := by omega
    obtain ⟨v, S2, e1, v1, v2, W2, O2⟩ := draw (k + d + 3) n 9 (S.set m (.lst [.int (r - 1)])) T (W.set hnm) (by omega) (by omega) (by omega)
    have hR2 : S2[m]? = some (.lst [.int (r - 1)]) := by rw [O2.o m (Ne.symm hnm)]; exact set_at hR
    have o2 : Oth2 n m S S2 := (oth2_set n m S _).trans (O2.two m)
    by_cases hr : 2 ≤ r - 1
    · by_cases h6 : v < 6
      · -- two terms
        by_cases h3 : v < 3
        · obtain ⟨sh, S4, e4, sh1, sh2, W4, O4⟩ := draw (k + d + 3) n (most + 1) (S2.set m (.lst [.int (r - 1 - 1)])) _ (W2.set hnm) (by omega) (by omega) (by omega)
          have hR4 : S4[m]? = some (.lst [.int (r - 1 - 1)]) := by rw [O4.o m (Ne.symm hnm)]; exact set_at hR2
          obtain ⟨x, S5, e5, x1, x2, x3, W5, ⟨r5, hR5⟩, o5⟩ := tree_sp L hL n m hnm d k (deep - 1) sh _ S4 _ (by omega) W4 hR4 sh1 (by omega) (by omega)
          obtain ⟨y, S7, e7, y1, y2, y3, W7, hR7, o7⟩ := tree_sp L hL n m hnm d k (deep - 1) (most - sh) _ (S5.set m (.lst [.int (r5 + 1)])) _ (by omega) (W5.set hnm) (set_at hR5) (by omega) (by omega) (by omega)
          refine ⟨.two true x y, S7, ?_, ⟨x1, y1⟩, by simp [ht]; omega, ?_, W7.up (by omega), hR7, ((((o2.trans (oth2_set n m S2 _)).trans (O4.two m)).trans o5).trans (oth2_set n m S5 _)).trans o7⟩
          · rw [callE]
            show callF Φ fu (k + d + 4 + 1) 15 _ S = _
            rw [at__law_term, run1 _ _ _ _ rfl]
            simp (disch := assumption) [fn__law_term, bd__law_term, List.replicate, vw_cell hR, hR, e1, vw_cell hR2, hR2, hdeep, hr, h6, h3, e4, e5, vw_cell hR5, hR5, e7, enc, kindL]
          · rw [hq]
            generalize 2 ^ d = h at *
            simp only [wd, gap, if_true, List.length_append, List.length_cons, List.length_nil]; omega
        · have W4 := W2.set (o := .lst [.int (r - 1 - 1)]) hnm
          have hR4 := set_at (o' := .lst [.int (r - 1 - 1)]) hR2
          obtain ⟨x, S5, e5, x1, x2, x3, W5, ⟨r5, hR5⟩, o5⟩ := tree_sp L hL n m hnm d k (deep - 1) most _ (S2.set m (.lst [.int (r - 1 - 1)])) _ (by omega) W4 hR4 hm0 hm1 (by omega)
          obtain ⟨y, S7, e7, y1, y2, y3, W7, hR7, o7⟩ := tree_sp L hL n m hnm d k (deep - 1) most _ (S5.set m (.lst [.int (r5 + 1)])) _ (by omega) (W5.set hnm) (set_at hR5) hm0 hm1 (by omega)
          refine ⟨.two false x y, S7, ?_, ⟨x1, y1⟩, by simp [ht]; omega, ?_, W7.up (by omega), hR7, (((o2.trans (oth2_set n m S2 _)).trans o5).trans (oth2_set n m S5 _)).trans o7⟩
          · rw [callE]
            show callF Φ fu (k + d + 4 + 1) 15 _ S = _
            rw [at__law_term, run1 _ _ _ _ rfl]
            simp (disch := assumption) [fn__law_term, bd__law_term, List.replicate, vw_cell hR, hR, e1, vw_cell hR2, hR2, hdeep, hr, h6, h3, e5, vw_cell hR5, hR5, e7, enc, kindL]
          · rw [hq]
            generalize 2 ^ d = h at *
            simp only [wd, gap, Bool.false_eq_true, if_false, List.length_append, List.length_cons, List.length_nil]; omega
      · by_cases h66 : v = 6
        · -- a number ahead of a term
          obtain ⟨p, q, S4, e4, ok4, W4, O4⟩ := pair_sp (k + d + 2) n (S2.set m (.lst [.int (r - 1 - 1)])) _ (W2.set hnm) (by omega)
          have hR4 : S4[m]? = some (.lst [.int (r - 1 - 1)]) := by rw [O4.o m (Ne.symm hnm)]; exact set_at hR2
          obtain ⟨x, S5, e5, x1, x2, x3, W5, hR5, o5⟩ := tree_sp L hL n m hnm d k (deep - 1) most _ S4 _ (by omega) W4 hR4 hm0 hm1 (by omega)
          have hnl := num_len ok4
          refine ⟨.take p q x, S5, ?_, ⟨ok4, x1⟩, by simp [ht]; omega, ?_, W5.up (by omega), hR5, ((o2.trans (oth2_set n m S2 _)).trans (O4.two m)).trans o5⟩
          · rw [callE]
            show callF Φ fu (k + d + 4 + 1) 15 _ S = _
            rw [at__law_term, run1 _ _ _ _ rfl]
            simp (disch := assumption) [fn__law_term, bd__law_term, List.replicate, vw_cell hR, hR, e1, vw_cell hR2, hR2, hdeep, hr, h66, e4, e5, enc]
          · rw [hq]
            generalize 2 ^ d = h at *
            simp only [wd, List.length_append, List.length_cons, List.length_nil]; omega
        · obtain ⟨t, S', e, h1, h2, h3, h4, h5, h6⟩ := tail_sp L hL n m hnm (k + d + 3) deep most r v S S2 T hR e1 W2 O2 (by omega) (.inr (.inr ⟨hdeep, hr, h6, h66⟩))
          exact ⟨t, S', e, h1, by omega, by omega, h4.up (by omega), h5, h6⟩
    · obtain ⟨t, S', e, h1, h2, h3, h4, h5, h6⟩ := tail_sp L hL n m hnm (k + d + 3) deep most r v S S2 T hR e1 W2 O2 (by omega) (.inr (.inl ⟨hdeep, hr⟩))
      exact ⟨t, S', e, h1, by omega, by omega, h4.up (by omega), h5, h6⟩
/-! monomials -/
inductive Mo where
  | l (c : Nat) | p (x y : Mo)
def encM : Mo → D
  | .l c => .str [c]
  | .p x y => .tup [encM x, encM y]
def wdM : Mo → List Nat
  | .l c => [c]
  | .p x y => [40] ++ wdM x ++ wdM y ++ [41]
def htM : Mo → Nat
  | .l _ => 1
  | .p x y => max (htM x) (htM y) + 1
theorem show_mono : ∀ (t : Mo) (n : Nat) (S : List O), htM t ≤ n → (wdM t).length ≤ 100000 → (cl (n + 1)).call 9 [encM t] S = .ok (.str (wdM t)) S
  | .l c, n, S, _, _ => by
    rw [callE, at_show_monomial, run1 _ _ _ _ rfl]
    simp [fn_show_monomial, bd_show_monomial, List.replicate, encM, wdM, subTy]
  | .p x y, n, S, hn, hl => by
    simp only [htM] at hn
    obtain ⟨m, rfl⟩ : ∃ m, n = m + 1 := ⟨n - 1, by omega⟩
    simp only [wdM, List.length_append, List.length_cons, List.length_nil] at hl
    have h1 := show_mono x m S (by omega) (by omega)
    have h2 := show_mono y m S (by omega) (by omega)
    rw [callE, at_show_monomial, run1 _ _ _ _ rfl]
    simp (disch := first | assumption | (simp only [List.length_append, List.length_cons, List.length_nil, LIM]; omega)) [fn_show_monomial, bd_show_monomial, List.replicate, encM, wdM, subTy, h1, h2]
theorem said_mono : ∀ (t : Mo) (n : Nat) (S : List O), htM t ≤ n → (wdM t).length ≤ 100000 → (cl (n + 1)).call 22 [encM t] S = .ok (.str (wdM t)) S
  | .l c, n, S, _, _ => by
    rw [callE, at__law_monomial_said, run1 _ _ _ _ rfl]
    simp [fn__law_monomial_said, bd__law_monomial_said, List.replicate, encM, wdM, subTy]
  | .p x y, n, S, hn, hl => by
    simp only [htM] at hn
    obtain ⟨m, rfl⟩ : ∃ m, n = m + 1 := ⟨n - 1, by omega⟩
    simp only [wdM, List.length_append, List.length_cons, List.length_nil] at hl
    have h1 := said_mono x m S (by omega) (by omega)
    have h2 := said_mono y m S (by omega) (by omega)
    rw [callE, at__law_monomial_said, run1 _ _ _ _ rfl]
    simp (disch := first | assumption | (simp only [List.length_append, List.length_cons, List.length_nil, LIM]; omega)) [fn__law_monomial_said, bd__law_monomial_said, List.replicate, encM, wdM, subTy, h1, h2]
theorem mono_sp (L : List Nat) (hL : Lts L) (n : Nat) : ∀ (b k : Nat) (many : Int) (S : List O) (T : Int), b ≤ 1000 → 1 ≤ many → many ≤ (b : Int) + 1 → Well S n T → T + 2 * 2 ^ (b + 1) ≤ 10 ^ 9 →
    ∃ (t : Mo) (S' : List O), (cl (k + b + 3)).call 21 [.cell n, .int many, .str L] S = .ok (encM t) S' ∧ htM t ≤ b + 1 ∧ (wdM t).length + 2 ≤ 3 * 2 ^ b ∧ Well S' n (T + 2 ^ (b + 1) - 1) ∧ Oth n S S'
  | 0, k, many, S, T, _, h1, h2, W, hT => by
    have hm : many = 1 := by omega
    subst hm
    obtain ⟨v, S1, e1, v1, v2, W1, O1⟩ := draw (k + 1) n (L.length : Int) S T W (by omega) hL.pos (by have := hL.len; omega)
    have hLL : L.length ≤ LIM := by have := hL.len; show _ ≤ 16000000; omega
    obtain ⟨c, hc, _⟩ := hL.at v1 v2
    refine ⟨.l c, S1, ?_, by simp [htM], by simp [wdM], W1.up (by omega), O1⟩
    rw [callE, at__law_monomial, run1 _ _ _ _ rfl]
    simp (disch := assumption) [fn__law_monomial, bd__law_monomial, List.replicate, e1, hc, encM]
  | b + 1, k, many, S, T, hb, h1, h2, W, hT => by
    have hp : (2 : Int) ^ (b + 1 + 1) = 2 ^ (b + 1) * 2 := Int.pow_succ ..
    have hp0 : (0 : Int) < 2 ^ (b + 1) := Int.pow_pos (by omega)
    have hq : 2 ^ (b + 1) = 2 ^ b * 2 := Nat.pow_succ ..
    have hq0 : 0 < 2 ^ b := Nat.pow_pos (by omega)
    have hp1 : (2 : Int) ^ (b + 1) = 2 ^ b * 2 := Int.pow_succ ..
    have hp2 : (0 : Int) < 2 ^ b := Int.pow_pos (by omega)
    by_cases hm : many = 1
    · subst hm
      obtain ⟨v, S1, e1, v1, v2, W1, O1⟩ := draw (k + b + 2) n (L.length : Int) S T W (by omega) hL.pos (by have := hL.len; omega)
      have hLL : L.length ≤ LIM := by have := hL.len; show _ ≤ 16000000; omega
      obtain ⟨c, hc, _⟩ := hL.at v1 v2
      refine ⟨.l c, S1, ?_, by simp [htM], by rw [hq]; simp [wdM]; omega, W1.up (by omega), O1⟩
      rw [callE]
      show callF Φ fu (k + b + 3 + 1) 21 _ S = _
      rw [at__law_monomial, run1 _ _ _ _ rfl]
      simp (disch := assumption) [fn__law_monomial, bd__law_monomial, List.replicate, e1, hc, encM]
    · by_cases hbig : many ≤ 1000000
      · obtain ⟨v, S1, e1, v1, v2, W1, O1⟩ := draw (k + b + 2) n (many - 1) S T W (by omega) (by omega) (by omega)
        obtain ⟨x, S2, e2, x2, x3, W2, O2⟩ := mono_sp L hL n b k (1 + v) S1 _ (by omega) (by omega) (by omega) W1 (by omega)
        obtain ⟨y, S3, e3, y2, y3, W3, O3⟩ := mono_sp L hL n b k (many - (1 + v)) S2 _ (by omega) (by omega) (by omega) W2 (by omega)
        refine ⟨.p x y, S3, ?_, by simp [htM]; omega, ?_, W3.up (by omega), (O1.trans O2).trans O3⟩
        · rw [callE]
          show callF Φ fu (k + b + 3 + 1) 21 _ S = _
          rw [at__law_monomial, run1 _ _ _ _ rfl]
          simp (disch := assumption) [fn__law_monomial, bd__law_monomial, List.replicate, hm, e1, e2, e3, encM]
        · rw [hq]
          generalize 2 ^ b = h at *
          simp only [wdM, List.length_append, List.length_cons, List.length_nil]; omega
      · omega
end K85

namespace K85
open PySem Tp
theorem same_mono : ∀ (t : Mo) (n : Nat) (S : List O), htM t ≤ n → (cl (n + 2)).call 18 [encM t, encM t] S = .ok (.bl true) S
  | .l c, n, S, _ => same_str _ _ _
  | .p x y, n, S, hn => by
    simp only [htM] at hn
    obtain ⟨m, rfl⟩ : ∃ m, n = m + 1 := ⟨n - 1, by omega⟩
    refine same_tup (m + 1 + 1) _ S (fun d hd => ?_) (by simp)
    simp only [List.mem_cons, List.not_mem_nil, or_false] at hd
    rcases hd with rfl | rfl
    · exact same_mono _ m S (by omega)
    · exact same_mono _ m S (by omega)
theorem right_sp (n : Nat) (S : List O) (T : Int) (W : Well S n T) (hT : T + 100000 ≤ 10 ^ 9) : ∃ S', (cl 199).call 23 [.cell n] S = .ok (.bl true) S' ∧ Well S' n (T + 30000) := by
  obtain ⟨L, S1, e1, hL, W1, _⟩ : ∃ (L : List Nat) (S' : List O), (cl 198).call 17 [.cell n] S = .ok (.str L) S' ∧ Lts L ∧ Well S' n (T + 6) ∧ Oth n S S' := letters_sp 196 n S T W (by omega)
  have hn1 : n < S1.length := by
    obtain ⟨a, b, c, h, _⟩ := W1
    exact (List.getElem?_eq_some_iff.mp h).1
  have hR : (S1 ++ [O.lst [D.int 24]])[S1.length]? = some (.lst [.int 24]) := by simp
  have W1' : Well (S1 ++ [O.lst [D.int 24]]) n (T + 6) := by
    obtain ⟨a, b, c, h, h'⟩ := W1
    exact ⟨a, b, c, by rw [List.getElem?_append_left hn1]; exact h, h'⟩
  obtain ⟨t, S2, e2, t1, t2, t3, W2, _, _⟩ : ∃ (t : Tm) (S' : List O), (cl 198).call 15 [.cell n, .cell S1.length, .int 10, .int 4, .str L] (S1 ++ [O.lst [D.int 24]]) = .ok (enc t) S' ∧ Ok t ∧ ht t ≤ 9 + 1 ∧ (wd t).length + 5 ≤ 25 * 2 ^ 9 ∧ Well S' n (T + 6 + 20 * 2 ^ (9 + 1) - 20) ∧ (∃ r', S'[S1.length]? = some (.lst [.int r'])) ∧ Oth2 n S1.length (S1 ++ [O.lst [D.int 24]]) S' :=
    tree_sp L hL n S1.length (by omega) 9 185 10 4 24 (S1 ++ [O.lst [D.int 24]]) (T + 6) rfl W1' hR (by omega) (by omega) (by omega)
  have s1 : ∀ S, (cl 198).call 16 [enc t] S = .ok (.str (wd t)) S := fun S => words_sp t 196 S t1 (by omega) (by omega)
  have s2 : ∀ S, (cl 198).call 8 [enc t] S = .ok (.str (wd t)) S := fun S => show_term_sp t 196 S t1 (by omega) (by omega)
  have s3 : ∀ s S, (cl 198).call 18 [.str s, .str s] S = .ok (.bl true) S := fun s S => same_str 197 s S
  have s4 : ∀ S, (cl 198).call 6 [.str (wd t)] S = .ok (enc t) S := fun S => read_sp t 194 S t1 (by omega) (by omega)
  have s5 : ∀ S, (cl 198).call 18 [enc t, enc t] S = .ok (.bl true) S := fun S => same_sp t 196 S (by omega)
  -- the longer term
  obtain ⟨u, S3, e3, u1, u2, u3, W3⟩ : ∃ (u : Tm) (S3 : List O), ev (cl 198) (.ife (.cmp .Gt (.call 11 (.cons (.var 0) (.cons (.cst (.int 4)) .nil))) (.cst (.int 0))) (.call 19 (.cons (.var 0) (.cons (.var 1) .nil))) (.call 20 (.cons (.var 0) (.cons (.bin .Add (.cst (.int 3)) (.call 11 (.cons (.var 0) (.cons (.cst (.int 6)) .nil)))) .nil)))) .v ⟨[.val (.cell n), .val (.str L), .val (enc t), .val (.str (wd t)), .no, .no, .no], S2⟩ = .ok (enc u) ⟨[.val (.cell n), .val (.str L), .val (enc t), .val (.str (wd t)), .no, .no, .no], S3⟩ ∧ Ok u ∧ ht u ≤ 20 ∧ (wd u).length ≤ 5000 ∧ Well S3 n (T + 25000) := by
    obtain ⟨v, S3, e3, v1, v2, W3, _⟩ : ∃ (v : Int) (S' : List O), (cl 198).call 11 [.cell n, .int 4] S2 = .ok (.int v) S' ∧ 0 ≤ v ∧ v < 4 ∧ Well S' n (T + 6 + 20 * 2 ^ (9 + 1) - 20 + 1) ∧ Oth n S2 S' := draw 197 n 4 S2 _ W2 (by omega) (by omega) (by omega)
    by_cases hv : 0 < v
    · obtain ⟨u, S4, e4, u1, u2, u3, W4, _⟩ : ∃ (t : Tm) (S' : List O), (cl 198).call 19 [.cell n, .str L] S3 = .ok (enc t) S' ∧ Ok t ∧ ht t ≤ 20 ∧ (wd t).length ≤ 1000 ∧ Well S' n (T + 6 + 20 * 2 ^ (9 + 1) - 20 + 1 + 200) ∧ Oth n S3 S' := chain_sp 195 n L hL S3 _ W3 (by omega)
      exact ⟨u, S4, by simp [e3, hv, e4], u1, u2, by omega, W4.up (by omega)⟩
    · obtain ⟨w, S4, e4, w1, w2, W4, _⟩ : ∃ (v : Int) (S' : List O), (cl 198).call 11 [.cell n, .int 6] S3 = .ok (.int v) S' ∧ 0 ≤ v ∧ v < 6 ∧ Well S' n (T + 6 + 20 * 2 ^ (9 + 1) - 20 + 1 + 1) ∧ Oth n S3 S' := draw 197 n 6 S3 _ W3 (by omega) (by omega) (by omega)
      obtain ⟨d, hd⟩ : ∃ d : Nat, (3 + w) = (d : Int) ∧ d ≤ 8 := ⟨(3 + w).toNat, by omega, by omega⟩
      obtain ⟨hd, hd8⟩ := hd
      have hpow : (2 : Int) ^ (d + 1) ≤ 2 ^ 9 := by
        have := Nat.pow_le_pow_right (n := 2) (by omega) (show d + 1 ≤ 9 by omega)
        exact_mod_cast this
      have hpow2 : 2 ^ d ≤ 2 ^ 8 := Nat.pow_le_pow_right (by omega) hd8
      obtain ⟨u, S5, e5, u1, u2, u3, W5, _⟩ := wide_sp d (196 - d) n S4 _ W4 (by omega)
      rw [show 196 - d + d + 2 = 198 by omega] at e5
      exact ⟨u, S5, by simp [e3, hv, e4, hd, e5], u1, by omega, by omega, W5.up (by omega)⟩
  have r1 : ∀ S, (cl 198).call 16 [enc u] S = .ok (.str (wd u)) S := fun S => words_sp u 196 S u1 (by omega) (by omega)
  have r2 : ∀ S, (cl 198).call 8 [enc u] S = .ok (.str (wd u)) S := fun S => show_term_sp u 196 S u1 (by omega) (by omega)
  have r4 : ∀ S, (cl 198).call 6 [.str (wd u)] S = .ok (enc u) S := fun S => read_sp u 194 S u1 (by omega) (by omega)
  have r5 : ∀ S, (cl 198).call 18 [enc u, enc u] S = .ok (.bl true) S := fun S => same_sp u 196 S (by omega)
  obtain ⟨v, S4, e4, v1, v2, W4, _⟩ : ∃ (v : Int) (S' : List O), (cl 198).call 11 [.cell n, .int 6] S3 = .ok (.int v) S' ∧ 0 ≤ v ∧ v < 6 ∧ Well S' n (T + 25000 + 1) ∧ Oth n S3 S' := draw 197 n 6 S3 _ W3 (by omega) (by omega) (by omega)
  obtain ⟨x, S5, e5, x1, x2, W5, _⟩ : ∃ (t : Mo) (S' : List O), (cl 198).call 21 [.cell n, .int (1 + v), .str L] S4 = .ok (encM t) S' ∧ htM t ≤ 5 + 1 ∧ (wdM t).length + 2 ≤ 3 * 2 ^ 5 ∧ Well S' n (T + 25000 + 1 + 2 ^ (5 + 1) - 1) ∧ Oth n S4 S' := mono_sp L hL n 5 190 (1 + v) S4 _ (by omega) (by omega) (by omega) W4 (by omega)
  have q1 : ∀ S, (cl 198).call 22 [encM x] S = .ok (.str (wdM x)) S := fun S => said_mono x 197 S (by omega) (by omega)
  have q2 : ∀ S, (cl 198).call 9 [encM x] S = .ok (.str (wdM x)) S := fun S => show_mono x 197 S (by omega) (by omega)
  refine ⟨S5, ?_, W5.up (by omega)⟩
  rw [callE]
  show callF Φ fu (198 + 1) 23 _ S = _
  rw [at__law_right, run1 _ _ _ _ rfl]
  simp [-ev_ife_v, fn__law_right, bd__law_right, List.replicate, e1, e2, s1, s2, s3, s4, s5, permD, e3, r1, r2, r4, r5, e4, e5, q1, q2, D.toO]
theorem well_sp (ns : List Int) (i : Nat) (S : List O) (hi : i < 100) (hl : ns.length ≤ 63) : ∃ a b : Int, (cl 199).call 10 [.ro (ns.map .int), .int (i : Int)] S = .ok (.cell S.length) (S ++ [.lst [.int a, .int b, .int 0]]) ∧ 0 ≤ a ∧ 0 ≤ b ∧ b < 10 ^ 24 + 7 := by
  obtain ⟨x, hx⟩ : ∃ x : Int, ev (cl 198) (.ife (.cmp .Lt (.var 1) (.blt .len (.cons (.var 0) .nil))) (.subV 0 (.var 1)) (.bin .Add (.bin .Mult (.var 1) (.cst (.int 7919))) (.bin .Mult (.blt .len (.cons (.var 0) .nil)) (.cst (.int 104729))))) .v ⟨[.val (.ro (ns.map .int)), .val (.int (i : Int)), .no], S⟩ = .ok (.int x) ⟨[.val (.ro (ns.map .int)), .val (.int (i : Int)), .no], S⟩ := by
    by_cases h : (i : Int) < (ns.length : Int)
    · have hi' : i < ns.length := by omega
      have : L2.atI (ns.map D.int) (i : Int) = some (.int ns[i]) := at_nat (by rw [List.getElem?_map, List.getElem?_eq_getElem hi']; rfl)
      exact ⟨ns[i], by simp [h, this]⟩
    · have m1 : mulOk (i : Int) 7919 = true := mulOk_r (by omega)
      have m2 : mulOk (ns.length : Int) 104729 = true := mulOk_r (by omega)
      exact ⟨_, by simp [h, m1, m2]; rfl⟩
  have p1 : powOk 10 18 = true := powOk_lt (N := 4) (by omega) (by omega) (by omega) (by omega)
  have p2 : powOk 10 24 = true := powOk_lt (N := 4) (by omega) (by omega) (by omega) (by omega)
  have m1 : ∀ y, mulOk y 48611 = true := fun y => mulOk_r (by omega)
  have m2 : ∀ y, mulOk y 6700417 = true := fun y => mulOk_r (by omega)
  refine ⟨if (if x < 0 then -x else x) - 1000000000000000000 > 0 then (if x < 0 then -x else x) - 1000000000000000000 else 0, (x * 48611 + (i : Int) * 6700417 + 31337) % 1000000000000000000000007, ?_, by split <;> omega, Int.emod_nonneg _ (by omega), Int.emod_lt_of_pos _ (by omega)⟩
  rw [callE]
  show callF Φ fu (198 + 1) 10 _ S = _
  rw [at__law_well, run1 _ _ _ _ rfl]
  simp [-ev_ife_v, fn__law_well, bd__law_well, List.replicate, hx, p1, p2, m1, m2, D.toO]
theorem plain : ∀ ns : List Int, ns.length ≤ 63 → ∃ S', (cl 200).call 24 [.ro (ns.map .int)] [] = .ok (.bl true) S' := by
  intro ns hl
  have hsm : small62 (if (2 : Int) < (if (ns.length : Int) < 8 then (ns.length : Int) else 8) then (if (ns.length : Int) < 8 then (ns.length : Int) else 8) else 2) = true := by unfold small62; exact decide_eq_true (by split <;> split <;> omega)
  have hsm3 : small62 3 = true := by unfold small62; exact decide_eq_true (by omega)
  generalize hN : (if (2 : Int) < (if (ns.length : Int) < 8 then (ns.length : Int) else 8) then (if (ns.length : Int) < 8 then (ns.length : Int) else 8) else 2) = N at hsm
  have hN8 : N ≤ 8 := by rw [← hN]; split <;> split <;> omega
  obtain ⟨st', e, x, y, z, S', hst⟩ := forB_ind (C := cl 199) (tg := .nm 1) (b := .cons (.asg (.nm 2) (.call 10 (.cons (.var 0) (.cons (.var 1) .nil)))) (.cons (.for_ (.nm 3) (.r1 (.cst (.int 3))) (.cons (.ife (.not (.call 23 (.cons (.var 2) .nil))) (.cons (.ret (.cst (.bl false))) .nil) .nil) .nil)) .nil))
    (fun _ st => ∃ (x y z : Sl) (S' : List O), st = ⟨[.val (.ro (ns.map .int)), x, y, z], S'⟩) (rangeL 0 N.toNat) (fun j d st hd ⟨x, y, z, S1, hst⟩ => by
      subst hst
      obtain ⟨rfl, hj⟩ := rangeL_get hd
      obtain ⟨a, b, ew, w1, w2, w3⟩ := well_sp ns j S1 (by omega) hl
      have W0 : Well (S1 ++ [.lst [.int a, .int b, .int 0]]) S1.length 0 := ⟨a, b, 0, by simp, w1, w2, w3, by omega, by omega⟩
      obtain ⟨st2, e2, z2, S2, hst2, _⟩ := forB_ind (C := cl 199) (tg := .nm 3) (b := .cons (.ife (.not (.call 23 (.cons (.var 2) .nil))) (.cons (.ret (.cst (.bl false))) .nil) .nil) .nil)
        (fun i st => ∃ (z : Sl) (S' : List O), st = ⟨[.val (.ro (ns.map .int)), .val (.int (j : Int)), .val (.cell S1.length), z], S'⟩ ∧ Well S' S1.length (30000 * i)) (rangeL 0 3) (fun i d st hd ⟨z, S2, hst, W⟩ => by
          subst hst
          obtain ⟨rfl, hi⟩ := rangeL_get hd
          have hi3 : i < 3 := hi
          obtain ⟨S3, e3, W3⟩ := right_sp S1.length S2 _ W (by omega)
          exact ⟨_, ⟨[.val (.ro (ns.map .int)), .val (.int (j : Int)), .val (.cell S1.length), .val (.int (0 + (i : Int)))], S3⟩, rfl, by simp [e3], _, S3, rfl, W3.up (by omega)⟩)
        ⟨[.val (.ro (ns.map .int)), .val (.int (j : Int)), .val (.cell S1.length), z], S1 ++ [.lst [.int a, .int b, .int 0]]⟩ ⟨z, _, rfl, by simpa using W0⟩
      subst hst2
      exact ⟨_, ⟨[.val (.ro (ns.map .int)), .val (.int (j : Int)), .val (.cell S1.length), z2], S2⟩, rfl, by simp [ew, hsm3, e2], _, _, _, S2, rfl⟩) ⟨[.val (.ro (ns.map .int)), .no, .no, .no], []⟩ ⟨_, _, _, _, rfl⟩
  refine ⟨S', ?_⟩
  rw [callE]
  show callF Φ fu (199 + 1) 24 _ [] = _
  rw [at_law, run1 _ _ _ _ rfl]
  subst hst
  simp [fn_law, bd_law, List.replicate, hN, hsm, e]
end K85


namespace K85
open PySem PySem.Spec PyProof.Rows L2 Tp
def top (i : Nat) : Stmt := PySem.Challenge.pw_toldproducts_k85_whole_terms_there_and_b.main.body.getD i (.Pass ⟨0, 0, 0, 0⟩)
abbrev s_is_number : Stmt := top 5
abbrev s_whole_of : Stmt := top 10
abbrev s_number_of : Stmt := top 11
abbrev s_taken_at : Stmt := top 12
abbrev s_pair_at : Stmt := top 13
abbrev s_term_at : Stmt := top 14
abbrev s_read_term : Stmt := top 15
abbrev s_show_number : Stmt := top 17
abbrev s_show_term : Stmt := top 18
abbrev s_show_monomial : Stmt := top 19
abbrev s__law_well : Stmt := top 21
abbrev s__law_dip : Stmt := top 22
abbrev s__law_common : Stmt := top 23
abbrev s__law_pair : Stmt := top 24
abbrev s__law_said : Stmt := top 25
abbrev s__law_term : Stmt := top 27
abbrev s__law_words : Stmt := top 28
abbrev s__law_letters : Stmt := top 29
abbrev s__law_same : Stmt := top 30
abbrev s__law_chain : Stmt := top 31
abbrev s__law_wide : Stmt := top 32
abbrev s__law_monomial : Stmt := top 33
abbrev s__law_monomial_said : Stmt := top 34
abbrev s__law_right : Stmt := top 35
abbrev s_law : Stmt := top 36
/-- what the top has written -/
structure Txt (G : Sig) (K : PySem.W.Frag) (mg : Str → Option Value) (fd : Nat → FuncData) : Prop where
  K_ : K = G.K
  F_is_number : Fun K "is_number" "is_number" s_is_number (G.fa 0) (fd 0)
  g_is_number : mg "is_number" = some (.ref (G.fa 0))
  B_is_number : Binds K (fd 0) ["value"] []
  F_whole_of : Fun K "whole_of" "whole_of" s_whole_of (G.fa 1) (fd 1)
  g_whole_of : mg "whole_of" = some (.ref (G.fa 1))
  B_whole_of : Binds K (fd 1) ["text"] []
  F_number_of : Fun K "number_of" "number_of" s_number_of (G.fa 2) (fd 2)
  g_number_of : mg "number_of" = some (.ref (G.fa 2))
  B_number_of : Binds K (fd 2) ["text"] []
  F_taken_at : Fun K "taken_at" "taken_at" s_taken_at (G.fa 3) (fd 3)
  g_taken_at : mg "taken_at" = some (.ref (G.fa 3))
  B_taken_at : Binds K (fd 3) ["text", "at"] []
  F_pair_at : Fun K "pair_at" "pair_at" s_pair_at (G.fa 4) (fd 4)
  g_pair_at : mg "pair_at" = some (.ref (G.fa 4))
  B_pair_at : Binds K (fd 4) ["text", "at"] []
  F_term_at : Fun K "term_at" "term_at" s_term_at (G.fa 5) (fd 5)
  g_term_at : mg "term_at" = some (.ref (G.fa 5))
  B_term_at : Binds K (fd 5) ["text", "at"] []
  F_read_term : Fun K "read_term" "read_term" s_read_term (G.fa 6) (fd 6)
  g_read_term : mg "read_term" = some (.ref (G.fa 6))
  B_read_term : Binds K (fd 6) ["text"] []
  F_show_number : Fun K "show_number" "show_number" s_show_number (G.fa 7) (fd 7)
  g_show_number : mg "show_number" = some (.ref (G.fa 7))
  B_show_number : Binds K (fd 7) ["number"] []
  F_show_term : Fun K "show_term" "show_term" s_show_term (G.fa 8) (fd 8)
  g_show_term : mg "show_term" = some (.ref (G.fa 8))
  B_show_term : Binds K (fd 8) ["term"] []
  F_show_monomial : Fun K "show_monomial" "show_monomial" s_show_monomial (G.fa 9) (fd 9)
  g_show_monomial : mg "show_monomial" = some (.ref (G.fa 9))
  B_show_monomial : Binds K (fd 9) ["monomial"] []
  F__law_well : Fun K "_law_well" "_law_well" s__law_well (G.fa 10) (fd 10)
  g__law_well : mg "_law_well" = some (.ref (G.fa 10))
  B__law_well : Binds K (fd 10) ["_law_script", "_law_place"] []
  F__law_dip : Fun K "_law_dip" "_law_dip" s__law_dip (G.fa 11) (fd 11)
  g__law_dip : mg "_law_dip" = some (.ref (G.fa 11))
  B__law_dip : Binds K (fd 11) ["_law_well_here", "_law_many"] []
  F__law_common : Fun K "_law_common" "_law_common" s__law_common (G.fa 12) (fd 12)
  g__law_common : mg "_law_common" = some (.ref (G.fa 12))
  B__law_common : Binds K (fd 12) ["_law_one", "_law_other"] []
  F__law_pair : Fun K "_law_pair" "_law_pair" s__law_pair (G.fa 13) (fd 13)
  g__law_pair : mg "_law_pair" = some (.ref (G.fa 13))
  B__law_pair : Binds K (fd 13) ["_law_well_here"] []
  F__law_said : Fun K "_law_said" "_law_said" s__law_said (G.fa 14) (fd 14)
  g__law_said : mg "_law_said" = some (.ref (G.fa 14))
  B__law_said : Binds K (fd 14) ["_law_pair_here"] []
  F__law_term : Fun K "_law_term" "_law_term" s__law_term (G.fa 15) (fd 15)
  g__law_term : mg "_law_term" = some (.ref (G.fa 15))
  B__law_term : Binds K (fd 15) ["_law_well_here", "_law_room", "_law_deep", "_law_most", "_law_letters_here"] []
  F__law_words : Fun K "_law_words" "_law_words" s__law_words (G.fa 16) (fd 16)
  g__law_words : mg "_law_words" = some (.ref (G.fa 16))
  B__law_words : Binds K (fd 16) ["_law_tree"] []
  F__law_letters : Fun K "_law_letters" "_law_letters" s__law_letters (G.fa 17) (fd 17)
  g__law_letters : mg "_law_letters" = some (.ref (G.fa 17))
  B__law_letters : Binds K (fd 17) ["_law_well_here"] []
  F__law_same : Fun K "_law_same" "_law_same" s__law_same (G.fa 18) (fd 18)
  g__law_same : mg "_law_same" = some (.ref (G.fa 18))
  B__law_same : Binds K (fd 18) ["_law_told", "_law_due"] []
  F__law_chain : Fun K "_law_chain" "_law_chain" s__law_chain (G.fa 19) (fd 19)
  g__law_chain : mg "_law_chain" = some (.ref (G.fa 19))
  B__law_chain : Binds K (fd 19) ["_law_well_here", "_law_letters_here"] []
  F__law_wide : Fun K "_law_wide" "_law_wide" s__law_wide (G.fa 20) (fd 20)
  g__law_wide : mg "_law_wide" = some (.ref (G.fa 20))
  B__law_wide : Binds K (fd 20) ["_law_well_here", "_law_deep"] []
  F__law_monomial : Fun K "_law_monomial" "_law_monomial" s__law_monomial (G.fa 21) (fd 21)
  g__law_monomial : mg "_law_monomial" = some (.ref (G.fa 21))
  B__law_monomial : Binds K (fd 21) ["_law_well_here", "_law_many", "_law_letters_here"] []
  F__law_monomial_said : Fun K "_law_monomial_said" "_law_monomial_said" s__law_monomial_said (G.fa 22) (fd 22)
  g__law_monomial_said : mg "_law_monomial_said" = some (.ref (G.fa 22))
  B__law_monomial_said : Binds K (fd 22) ["_law_tree"] []
  F__law_right : Fun K "_law_right" "_law_right" s__law_right (G.fa 23) (fd 23)
  g__law_right : mg "_law_right" = some (.ref (G.fa 23))
  B__law_right : Binds K (fd 23) ["_law_well_here"] []
  F_law : Fun K "law" "law" s_law (G.fa 24) (fd 24)
  g_law : mg "law" = some (.ref (G.fa 24))
  B_law : Binds K (fd 24) ["_law_script"] []
  b_abs : mg "abs" = none
  b_all : mg "all" = none
  b_bool : mg "bool" = none
  b_gcd : mg "gcd" = some (.builtin "math.gcd")
  b_int : mg "int" = none
  b_isinstance : mg "isinstance" = none
  b_len : mg "len" = none
  b_list : mg "list" = none
  b_max : mg "max" = none
  b_min : mg "min" = none
  b_range : mg "range" = none
  b_str : mg "str" = none
  b_tuple : mg "tuple" = none
  c_DIGITS : ∃ t, mg "DIGITS" = some (.str "0123456789" t)
  c_LETTERS : ∃ t, mg "LETTERS" = some (.str "abcdefghijklmnopqrstuvwxyz" t)
  c_MOST_DIGITS : ∃ t, mg "MOST_DIGITS" = some (.int 9 t)
  kw_read_term_text : KwB K (fd 6) ["text"] ["text"] [0]
  kw_show_monomial_monomial : KwB K (fd 9) ["monomial"] ["monomial"] [0]
  kw_show_term_term : KwB K (fd 8) ["term"] ["term"] [0]
section
variable {P : Program} {w : World} {G : Sig} {K : PySem.W.Frag} {mg : Str → Option Value} {base : Heap} {fd : Nat → FuncData}
/-- every def keeps its promise at a level -/
structure Lv (P : Program) (w : World) (G : Sig) (K : PySem.W.Frag) (mg : Str → Option Value) (base : Heap) (fd : Nat → FuncData) (n : Nat) : Prop where
  l_is_number : FnOk P w K mg base (L2.CX P w) n (G.fa 0) (fd 0) ["value"] (spD G ((cl n).call 0) false 1)
  l_whole_of : FnOk P w K mg base (L2.CX P w) n (G.fa 1) (fd 1) ["text"] (spD G ((cl n).call 1) false 1)
  l_number_of : FnOk P w K mg base (L2.CX P w) n (G.fa 2) (fd 2) ["text"] (spD G ((cl n).call 2) false 1)
  l_taken_at : FnOk P w K mg base (L2.CX P w) n (G.fa 3) (fd 3) ["text", "at"] (spD G ((cl n).call 3) false 2)
  l_pair_at : FnOk P w K mg base (L2.CX P w) n (G.fa 4) (fd 4) ["text", "at"] (spD G ((cl n).call 4) false 2)
  l_term_at : FnOk P w K mg base (L2.CX P w) n (G.fa 5) (fd 5) ["text", "at"] (spD G ((cl n).call 5) false 2)
  l_read_term : FnOk P w K mg base (L2.CX P w) n (G.fa 6) (fd 6) ["text"] (spD G ((cl n).call 6) false 1)
  l_show_number : FnOk P w K mg base (L2.CX P w) n (G.fa 7) (fd 7) ["number"] (spD G ((cl n).call 7) false 1)
  l_show_term : FnOk P w K mg base (L2.CX P w) n (G.fa 8) (fd 8) ["term"] (spD G ((cl n).call 8) false 1)
  l_show_monomial : FnOk P w K mg base (L2.CX P w) n (G.fa 9) (fd 9) ["monomial"] (spD G ((cl n).call 9) false 1)
  l__law_well : FnOk P w K mg base (L2.CX P w) n (G.fa 10) (fd 10) ["_law_script", "_law_place"] (spD G ((cl n).call 10) false 2)
  l__law_dip : FnOk P w K mg base (L2.CX P w) n (G.fa 11) (fd 11) ["_law_well_here", "_law_many"] (spD G ((cl n).call 11) false 2)
  l__law_common : FnOk P w K mg base (L2.CX P w) n (G.fa 12) (fd 12) ["_law_one", "_law_other"] (spD G ((cl n).call 12) false 2)
  l__law_pair : FnOk P w K mg base (L2.CX P w) n (G.fa 13) (fd 13) ["_law_well_here"] (spD G ((cl n).call 13) false 1)
  l__law_said : FnOk P w K mg base (L2.CX P w) n (G.fa 14) (fd 14) ["_law_pair_here"] (spD G ((cl n).call 14) false 1)
  l__law_term : FnOk P w K mg base (L2.CX P w) n (G.fa 15) (fd 15) ["_law_well_here", "_law_room", "_law_deep", "_law_most", "_law_letters_here"] (spD G ((cl n).call 15) false 5)
  l__law_words : FnOk P w K mg base (L2.CX P w) n (G.fa 16) (fd 16) ["_law_tree"] (spD G ((cl n).call 16) false 1)
  l__law_letters : FnOk P w K mg base (L2.CX P w) n (G.fa 17) (fd 17) ["_law_well_here"] (spD G ((cl n).call 17) false 1)
  l__law_same : FnOk P w K mg base (L2.CX P w) n (G.fa 18) (fd 18) ["_law_told", "_law_due"] (spD G ((cl n).call 18) false 2)
  l__law_chain : FnOk P w K mg base (L2.CX P w) n (G.fa 19) (fd 19) ["_law_well_here", "_law_letters_here"] (spD G ((cl n).call 19) false 2)
  l__law_wide : FnOk P w K mg base (L2.CX P w) n (G.fa 20) (fd 20) ["_law_well_here", "_law_deep"] (spD G ((cl n).call 20) false 2)
  l__law_monomial : FnOk P w K mg base (L2.CX P w) n (G.fa 21) (fd 21) ["_law_well_here", "_law_many", "_law_letters_here"] (spD G ((cl n).call 21) false 3)
  l__law_monomial_said : FnOk P w K mg base (L2.CX P w) n (G.fa 22) (fd 22) ["_law_tree"] (spD G ((cl n).call 22) false 1)
  l__law_right : FnOk P w K mg base (L2.CX P w) n (G.fa 23) (fd 23) ["_law_well_here"] (spD G ((cl n).call 23) false 1)
  l_law : FnOk P w K mg base (L2.CX P w) n (G.fa 24) (fd 24) ["_law_script"] (spD G ((cl n).call 24) false 1)
theorem d_is_number {X : Cx} {n : Nat} (T : Txt G X.K X.mg fd) (L : Lv X.prog X.w G X.K X.mg X.base fd n) : DefC X G (cl n) n 0 "is_number" 1 ["value"] (fd 0) := ⟨T.g_is_number, T.F_is_number.kp, T.B_is_number, L.l_is_number⟩
theorem d_whole_of {X : Cx} {n : Nat} (T : Txt G X.K X.mg fd) (L : Lv X.prog X.w G X.K X.mg X.base fd n) : DefC X G (cl n) n 1 "whole_of" 1 ["text"] (fd 1) := ⟨T.g_whole_of, T.F_whole_of.kp, T.B_whole_of, L.l_whole_of⟩
theorem d_number_of {X : Cx} {n : Nat} (T : Txt G X.K X.mg fd) (L : Lv X.prog X.w G X.K X.mg X.base fd n) : DefC X G (cl n) n 2 "number_of" 1 ["text"] (fd 2) := ⟨T.g_number_of, T.F_number_of.kp, T.B_number_of, L.l_number_of⟩
theorem d_taken_at {X : Cx} {n : Nat} (T : Txt G X.K X.mg fd) (L : Lv X.prog X.w G X.K X.mg X.base fd n) : DefC X G (cl n) n 3 "taken_at" 2 ["text", "at"] (fd 3) := ⟨T.g_taken_at, T.F_taken_at.kp, T.B_taken_at, L.l_taken_at⟩
theorem d_pair_at {X : Cx} {n : Nat} (T : Txt G X.K X.mg fd) (L : Lv X.prog X.w G X.K X.mg X.base fd n) : DefC X G (cl n) n 4 "pair_at" 2 ["text", "at"] (fd 4) := ⟨T.g_pair_at, T.F_pair_at.kp, T.B_pair_at, L.l_pair_at⟩
theorem d_term_at {X : Cx} {n : Nat} (T : Txt G X.K X.mg fd) (L : Lv X.prog X.w G X.K X.mg X.base fd n) : DefC X G (cl n) n 5 "term_at" 2 ["text", "at"] (fd 5) := ⟨T.g_term_at, T.F_term_at.kp, T.B_term_at, L.l_term_at⟩
theorem d_read_term {X : Cx} {n : Nat} (T : Txt G X.K X.mg fd) (L : Lv X.prog X.w G X.K X.mg X.base fd n) : DefC X G (cl n) n 6 "read_term" 1 ["text"] (fd 6) := ⟨T.g_read_term, T.F_read_term.kp, T.B_read_term, L.l_read_term⟩
theorem d_show_number {X : Cx} {n : Nat} (T : Txt G X.K X.mg fd) (L : Lv X.prog X.w G X.K X.mg X.base fd n) : DefC X G (cl n) n 7 "show_number" 1 ["number"] (fd 7) := ⟨T.g_show_number, T.F_show_number.kp, T.B_show_number, L.l_show_number⟩
theorem d_show_term {X : Cx} {n : Nat} (T : Txt G X.K X.mg fd) (L : Lv X.prog X.w G X.K X.mg X.base fd n) : DefC X G (cl n) n 8 "show_term" 1 ["term"] (fd 8) := ⟨T.g_show_term, T.F_show_term.kp, T.B_show_term, L.l_show_term⟩
theorem d_show_monomial {X : Cx} {n : Nat} (T : Txt G X.K X.mg fd) (L : Lv X.prog X.w G X.K X.mg X.base fd n) : DefC X G (cl n) n 9 "show_monomial" 1 ["monomial"] (fd 9) := ⟨T.g_show_monomial, T.F_show_monomial.kp, T.B_show_monomial, L.l_show_monomial⟩
theorem d__law_well {X : Cx} {n : Nat} (T : Txt G X.K X.mg fd) (L : Lv X.prog X.w G X.K X.mg X.base fd n) : DefC X G (cl n) n 10 "_law_well" 2 ["_law_script", "_law_place"] (fd 10) := ⟨T.g__law_well, T.F__law_well.kp, T.B__law_well, L.l__law_well⟩
theorem d__law_dip {X : Cx} {n : Nat} (T : Txt G X.K X.mg fd) (L : Lv X.prog X.w G X.K X.mg X.base fd n) : DefC X G (cl n) n 11 "_law_dip" 2 ["_law_well_here", "_law_many"] (fd 11) := ⟨T.g__law_dip, T.F__law_dip.kp, T.B__law_dip, L.l__law_dip⟩
theorem d__law_common {X : Cx} {n : Nat} (T : Txt G X.K X.mg fd) (L : Lv X.prog X.w G X.K X.mg X.base fd n) : DefC X G (cl n) n 12 "_law_common" 2 ["_law_one", "_law_other"] (fd 12) := ⟨T.g__law_common, T.F__law_common.kp, T.B__law_common, L.l__law_common⟩
theorem d__law_pair {X : Cx} {n : Nat} (T : Txt G X.K X.mg fd) (L : Lv X.prog X.w G X.K X.mg X.base fd n) : DefC X G (cl n) n 13 "_law_pair" 1 ["_law_well_here"] (fd 13) := ⟨T.g__law_pair, T.F__law_pair.kp, T.B__law_pair, L.l__law_pair⟩
theorem d__law_said {X : Cx} {n : Nat} (T : Txt G X.K X.mg fd) (L : Lv X.prog X.w G X.K X.mg X.base fd n) : DefC X G (cl n) n 14 "_law_said" 1 ["_law_pair_here"] (fd 14) := ⟨T.g__law_said, T.F__law_said.kp, T.B__law_said, L.l__law_said⟩
theorem d__law_term {X : Cx} {n : Nat} (T : Txt G X.K X.mg fd) (L : Lv X.prog X.w G X.K X.mg X.base fd n) : DefC X G (cl n) n 15 "_law_term" 5 ["_law_well_here", "_law_room", "_law_deep", "_law_most", "_law_letters_here"] (fd 15) := ⟨T.g__law_term, T.F__law_term.kp, T.B__law_term, L.l__law_term⟩
theorem d__law_words {X : Cx} {n : Nat} (T : Txt G X.K X.mg fd) (L : Lv X.prog X.w G X.K X.mg X.base fd n) : DefC X G (cl n) n 16 "_law_words" 1 ["_law_tree"] (fd 16) := ⟨T.g__law_words, T.F__law_words.kp, T.B__law_words, L.l__law_words⟩
theorem d__law_letters {X : Cx} {n : Nat} (T : Txt G X.K X.mg fd) (L : Lv X.prog X.w G X.K X.mg X.base fd n) : DefC X G (cl n) n 17 "_law_letters" 1 ["_law_well_here"] (fd 17) := ⟨T.g__law_letters, T.F__law_letters.kp, T.B__law_letters, L.l__law_letters⟩
theorem d__law_same {X : Cx} {n : Nat} (T : Txt G X.K X.mg fd) (L : Lv X.prog X.w G X.K X.mg X.base fd n) : DefC X G (cl n) n 18 "_law_same" 2 ["_law_told", "_law_due"] (fd 18) := ⟨T.g__law_same, T.F__law_same.kp, T.B__law_same, L.l__law_same⟩
theorem d__law_chain {X : Cx} {n : Nat} (T : Txt G X.K X.mg fd) (L : Lv X.prog X.w G X.K X.mg X.base fd n) : DefC X G (cl n) n 19 "_law_chain" 2 ["_law_well_here", "_law_letters_here"] (fd 19) := ⟨T.g__law_chain, T.F__law_chain.kp, T.B__law_chain, L.l__law_chain⟩
theorem d__law_wide {X : Cx} {n : Nat} (T : Txt G X.K X.mg fd) (L : Lv X.prog X.w G X.K X.mg X.base fd n) : DefC X G (cl n) n 20 "_law_wide" 2 ["_law_well_here", "_law_deep"] (fd 20) := ⟨T.g__law_wide, T.F__law_wide.kp, T.B__law_wide, L.l__law_wide⟩
theorem d__law_monomial {X : Cx} {n : Nat} (T : Txt G X.K X.mg fd) (L : Lv X.prog X.w G X.K X.mg X.base fd n) : DefC X G (cl n) n 21 "_law_monomial" 3 ["_law_well_here", "_law_many", "_law_letters_here"] (fd 21) := ⟨T.g__law_monomial, T.F__law_monomial.kp, T.B__law_monomial, L.l__law_monomial⟩
theorem d__law_monomial_said {X : Cx} {n : Nat} (T : Txt G X.K X.mg fd) (L : Lv X.prog X.w G X.K X.mg X.base fd n) : DefC X G (cl n) n 22 "_law_monomial_said" 1 ["_law_tree"] (fd 22) := ⟨T.g__law_monomial_said, T.F__law_monomial_said.kp, T.B__law_monomial_said, L.l__law_monomial_said⟩
theorem d__law_right {X : Cx} {n : Nat} (T : Txt G X.K X.mg fd) (L : Lv X.prog X.w G X.K X.mg X.base fd n) : DefC X G (cl n) n 23 "_law_right" 1 ["_law_well_here"] (fd 23) := ⟨T.g__law_right, T.F__law_right.kp, T.B__law_right, L.l__law_right⟩
theorem d_law {X : Cx} {n : Nat} (T : Txt G X.K X.mg fd) (L : Lv X.prog X.w G X.K X.mg X.base fd n) : DefC X G (cl n) n 24 "law" 1 ["_law_script"] (fd 24) := ⟨T.g_law, T.F_law.kp, T.B_law, L.l_law⟩
theorem sc_is_number : FnScope ["value"] ["value"] (defScope s_is_number) := ⟨rfl, rfl, rfl, by decide +kernel, rfl, by decide +kernel, by decide +kernel⟩
theorem up_is_number (T : Txt G K mg fd) {n : Nat} (L : Lv P w G K mg base fd n) : FnOk P w K mg base (L2.CX P w) (n + 1) (G.fa 0) (fd 0) ["value"] (spD G ((cl (n + 1)).call 0) false 1) := by
  refine T.F_is_number.okX sc_is_number (fun vs H Q E h => h.1) (fun cdv A outer s H vs Q E hr h => ⟨tS G (fun cls d _ H => E cls d H) false (evSs (cl n) bd_is_number), ?_, def_end (f := fn_is_number) h⟩)
  have o : Bed (cxOf (L2.CX P w) P w K mg base ["value"] "is_number" (defScope s_is_number) (G.fa 0) cdv A outer s H E) G (fun cls d _ H => E cls d H) n := ⟨rfl, sc_is_number.nd, T.K_, hr, takes_of rfl rfl rfl rfl⟩
  have hp := passes_of (X := cxOf (L2.CX P w) P w K mg base ["value"] "is_number" (defScope s_is_number) (G.fa 0) cdv A outer s H E) rfl
  exact (sCons (sRet (vAnd (vCmp (vSubV o rfl (.inl rfl) vInt) vInt) (vOne (vCmp (vBlt o rfl rfl T.b_gcd (lCons (vSubV o rfl (.inl rfl) vInt) (lCons (vSubV o rfl (.inl rfl) vInt) lNil))) vInt)))) sNil)
theorem sc_whole_of : FnScope ["text", "digits", "sign"] ["text"] (defScope s_whole_of) := ⟨rfl, rfl, rfl, by decide +kernel, rfl, by decide +kernel, by decide +kernel⟩
theorem up_whole_of (T : Txt G K mg fd) {n : Nat} (L : Lv P w G K mg base fd n) : FnOk P w K mg base (L2.CX P w) (n + 1) (G.fa 1) (fd 1) ["text"] (spD G ((cl (n + 1)).call 1) false 1) := by
  refine T.F_whole_of.okX sc_whole_of (fun vs H Q E h => h.1) (fun cdv A outer s H vs Q E hr h => ⟨tS G (fun cls d _ H => E cls d H) false (evSs (cl n) bd_whole_of), ?_, def_end (f := fn_whole_of) h⟩)
  have o : Bed (cxOf (L2.CX P w) P w K mg base ["text", "digits", "sign"] "whole_of" (defScope s_whole_of) (G.fa 1) cdv A outer s H E) G (fun cls d _ H => E cls d H) n := ⟨rfl, sc_whole_of.nd, T.K_, hr, takes_of rfl rfl rfl rfl⟩
  have hp := passes_of (X := cxOf (L2.CX P w) P w K mg base ["text", "digits", "sign"] "whole_of" (defScope s_whole_of) (G.fa 1) cdv A outer s H E) rfl
  obtain ⟨t_DIGITS, h_DIGITS⟩ := T.c_DIGITS
  obtain ⟨t_MOST_DIGITS, h_MOST_DIGITS⟩ := T.c_MOST_DIGITS
  exact (sCons (sAsg (vIf (tV (vMth rfl (vVar rfl (.inl rfl)) (lCons (vStr rfl) lNil))) (vSlc o (vVar rfl (.inl rfl)) (pSome vInt) pNone) (vVar rfl (.inl rfl))) (gNm o.hN rfl (.inl rfl) (.inl rfl))) (sCons (sIf (tW (tOr (tCmp (vVar rfl (.inl rfl)) (vStr rfl)) (tOr (tCmp (vBlt o rfl rfl T.b_len (lCons (vVar rfl (.inl rfl)) lNil)) (vGc rfl h_MOST_DIGITS rfl ⟨_, rfl⟩)) (tOr1 (tNot (tV (vBlt o rfl rfl T.b_all (lCons (vLc o (own := [("sign", 2)]) (iEx o (vVar rfl (.inl rfl))) rfl rfl rfl (fun _ _ _ _ _ o => (gNm o.hN rfl (.inl rfl) (.inr rfl))) (fun _ _ _ _ _ o => cNone) (fun _ _ _ _ _ o => (vCmp (vVar rfl (.inl rfl)) (vGc rfl h_DIGITS rfl ⟨_, rfl⟩)))) lNil)))))))) (sCons (sRet vNon) sNil) sNil) (sCons (sIf (tW (tAnd (tCmp (vSubV o rfl (.inl rfl) vInt) (vStr rfl)) (tAnd1 (tCmp (vVar rfl (.inl rfl)) (vStr rfl))))) (sCons (sRet vNon) sNil) sNil) (sCons (sRet (vBlt o rfl rfl T.b_int (lCons (vVar rfl (.inl rfl)) lNil))) sNil))))
theorem sc_number_of : FnScope ["text", "above_text", "stroke", "below_text", "above", "below"] ["text"] (defScope s_number_of) := ⟨rfl, rfl, rfl, by decide +kernel, rfl, by decide +kernel, by decide +kernel⟩
theorem up_number_of (T : Txt G K mg fd) {n : Nat} (L : Lv P w G K mg base fd n) : FnOk P w K mg base (L2.CX P w) (n + 1) (G.fa 2) (fd 2) ["text"] (spD G ((cl (n + 1)).call 2) false 1) := by
  refine T.F_number_of.okX sc_number_of (fun vs H Q E h => h.1) (fun cdv A outer s H vs Q E hr h => ⟨tS G (fun cls d _ H => E cls d H) false (evSs (cl n) bd_number_of), ?_, def_end (f := fn_number_of) h⟩)
  have o : Bed (cxOf (L2.CX P w) P w K mg base ["text", "above_text", "stroke", "below_text", "above", "below"] "number_of" (defScope s_number_of) (G.fa 2) cdv A outer s H E) G (fun cls d _ H => E cls d H) n := ⟨rfl, sc_number_of.nd, T.K_, hr, takes_of rfl rfl rfl rfl⟩
  have hp := passes_of (X := cxOf (L2.CX P w) P w K mg base ["text", "above_text", "stroke", "below_text", "above", "below"] "number_of" (defScope s_number_of) (G.fa 2) cdv A outer s H E) rfl
  exact (sCons (sAsg (vMth rfl (vVar rfl (.inl rfl)) (lCons (vStr rfl) lNil)) (gTp o (gsCons o.hN rfl (.inl rfl) (.inl rfl) (gsCons o.hN rfl (.inl rfl) (.inl rfl) (gsCons o.hN rfl (.inl rfl) (.inl rfl) gsNil))))) (sCons (sAsg (vCall o (d_whole_of T L) rfl (lCons (vVar rfl (.inl rfl)) lNil)) (gNm o.hN rfl (.inl rfl) (.inl rfl))) (sCons (sIf (tCmp (vVar rfl (.inl rfl)) vNon) (sCons (sRet vNon) sNil) sNil) (sCons (sIf (tCmp (vVar rfl (.inl rfl)) (vStr rfl)) (sCons (sRet (vTup (lCons (vVar rfl (.inl rfl)) (lCons vInt lNil)))) sNil) sNil) (sCons (sAsg (vCall o (d_whole_of T L) rfl (lCons (vVar rfl (.inl rfl)) lNil)) (gNm o.hN rfl (.inl rfl) (.inl rfl))) (sCons (sIf (tW (tOr (tCmp (vVar rfl (.inl rfl)) vNon) (tOr (tCmp (vVar rfl (.inl rfl)) vInt) (tOr1 (tNot (tV (vCall o (d_is_number T L) rfl (lCons (vTup (lCons (vVar rfl (.inl rfl)) (lCons (vVar rfl (.inl rfl)) lNil))) lNil)))))))) (sCons (sRet vNon) sNil) sNil) (sCons (sRet (vTup (lCons (vVar rfl (.inl rfl)) (lCons (vVar rfl (.inl rfl)) lNil)))) sNil)))))))
theorem sc_taken_at : FnScope ["text", "at", "end", "word", "number", "inner"] ["text", "at"] (defScope s_taken_at) := ⟨rfl, rfl, rfl, by decide +kernel, rfl, by decide +kernel, by decide +kernel⟩
theorem up_taken_at (T : Txt G K mg fd) {n : Nat} (L : Lv P w G K mg base fd n) : FnOk P w K mg base (L2.CX P w) (n + 1) (G.fa 3) (fd 3) ["text", "at"] (spD G ((cl (n + 1)).call 3) false 2) := by
  refine T.F_taken_at.okX sc_taken_at (fun vs H Q E h => h.1) (fun cdv A outer s H vs Q E hr h => ⟨tS G (fun cls d _ H => E cls d H) false (evSs (cl n) bd_taken_at), ?_, def_end (f := fn_taken_at) h⟩)
  have o : Bed (cxOf (L2.CX P w) P w K mg base ["text", "at", "end", "word", "number", "inner"] "taken_at" (defScope s_taken_at) (G.fa 3) cdv A outer s H E) G (fun cls d _ H => E cls d H) n := ⟨rfl, sc_taken_at.nd, T.K_, hr, takes_of rfl rfl rfl rfl⟩
  have hp := passes_of (X := cxOf (L2.CX P w) P w K mg base ["text", "at", "end", "word", "number", "inner"] "taken_at" (defScope s_taken_at) (G.fa 3) cdv A outer s H E) rfl
  exact (sCons (sAsg (vVar rfl (.inl rfl)) (gNm o.hN rfl (.inl rfl) (.inl rfl))) (sCons (sWhl hp (tW (tAnd (tCmp (vVar rfl (.inl rfl)) (vBlt o rfl rfl T.b_len (lCons (vVar rfl (.inl rfl)) lNil))) (tAnd1 (tCmp (vSubV o rfl (.inl rfl) (vVar rfl (.inl rfl))) (vStr rfl))))) (sCons (sAdd o rfl (.inl rfl) vInt (.inl rfl)) sNil)) (sCons (sAsg (vSlc o (vVar rfl (.inl rfl)) (pSome (vVar rfl (.inl rfl))) (pSome (vVar rfl (.inl rfl)))) (gNm o.hN rfl (.inl rfl) (.inl rfl))) (sCons (sIf (tCmp (vSlc o (vVar rfl (.inl rfl)) (pSome (vVar rfl (.inl rfl))) (pSome (vBin (vVar rfl (.inl rfl)) vInt))) (vStr rfl)) (sCons (sRet (vIf (tCmp (vVar rfl (.inl rfl)) (vStr rfl)) (vTup (lCons (vTup (lCons (vStr rfl) lNil)) (lCons (vVar rfl (.inl rfl)) lNil))) vNon)) sNil) sNil) (sCons (sAsg (vCall o (d_number_of T L) rfl (lCons (vVar rfl (.inl rfl)) lNil)) (gNm o.hN rfl (.inl rfl) (.inl rfl))) (sCons (sIf (tCmp (vVar rfl (.inl rfl)) vNon) (sCons (sRet vNon) sNil) sNil) (sCons (sAsg (vCall o (d_term_at T L) rfl (lCons (vVar rfl (.inl rfl)) (lCons (vBin (vVar rfl (.inl rfl)) vInt) lNil))) (gNm o.hN rfl (.inl rfl) (.inl rfl))) (sCons (sIf (tW (tOr (tCmp (vVar rfl (.inl rfl)) vNon) (tOr1 (tCmp (vSlc o (vVar rfl (.inl rfl)) (pSome (vSubV o rfl (.inl rfl) vInt)) (pSome (vBin (vSubV o rfl (.inl rfl) vInt) vInt))) (vStr rfl))))) (sCons (sRet vNon) sNil) sNil) (sCons (sRet (vTup (lCons (vTup (lCons (vStr rfl) (lCons (vVar rfl (.inl rfl)) (lCons (vSubV o rfl (.inl rfl) vInt) lNil)))) (lCons (vBin (vSubV o rfl (.inl rfl) vInt) vInt) lNil)))) sNil)))))))))
theorem sc_pair_at : FnScope ["text", "at", "one", "end", "kind", "between", "other"] ["text", "at"] (defScope s_pair_at) := ⟨rfl, rfl, rfl, by decide +kernel, rfl, by decide +kernel, by decide +kernel⟩
theorem up_pair_at (T : Txt G K mg fd) {n : Nat} (L : Lv P w G K mg base fd n) : FnOk P w K mg base (L2.CX P w) (n + 1) (G.fa 4) (fd 4) ["text", "at"] (spD G ((cl (n + 1)).call 4) false 2) := by
  refine T.F_pair_at.okX sc_pair_at (fun vs H Q E h => h.1) (fun cdv A outer s H vs Q E hr h => ⟨tS G (fun cls d _ H => E cls d H) false (evSs (cl n) bd_pair_at), ?_, def_end (f := fn_pair_at) h⟩)
  have o : Bed (cxOf (L2.CX P w) P w K mg base ["text", "at", "one", "end", "kind", "between", "other"] "pair_at" (defScope s_pair_at) (G.fa 4) cdv A outer s H E) G (fun cls d _ H => E cls d H) n := ⟨rfl, sc_pair_at.nd, T.K_, hr, takes_of rfl rfl rfl rfl⟩
  have hp := passes_of (X := cxOf (L2.CX P w) P w K mg base ["text", "at", "one", "end", "kind", "between", "other"] "pair_at" (defScope s_pair_at) (G.fa 4) cdv A outer s H E) rfl
  exact (sCons (sAsg (vCall o (d_term_at T L) rfl (lCons (vVar rfl (.inl rfl)) (lCons (vVar rfl (.inl rfl)) lNil))) (gNm o.hN rfl (.inl rfl) (.inl rfl))) (sCons (sIf (tCmp (vVar rfl (.inl rfl)) vNon) (sCons (sRet vNon) sNil) sNil) (sCons (sAsg (vSubV o rfl (.inl rfl) vInt) (gNm o.hN rfl (.inl rfl) (.inl rfl))) (sCons (sAsg (vIf (tCmp (vSlc o (vVar rfl (.inl rfl)) (pSome (vVar rfl (.inl rfl))) (pSome (vBin (vVar rfl (.inl rfl)) vInt))) (vStr rfl)) (vTup (lCons (vStr rfl) (lCons (vStr rfl) lNil))) (vTup (lCons (vStr rfl) (lCons (vStr rfl) lNil)))) (gTp o (gsCons o.hN rfl (.inl rfl) (.inl rfl) (gsCons o.hN rfl (.inl rfl) (.inl rfl) gsNil)))) (sCons (sIf (tCmp (vSlc o (vVar rfl (.inl rfl)) (pSome (vVar rfl (.inl rfl))) (pSome (vBin (vVar rfl (.inl rfl)) (vBlt o rfl rfl T.b_len (lCons (vVar rfl (.inl rfl)) lNil))))) (vVar rfl (.inl rfl))) (sCons (sRet vNon) sNil) sNil) (sCons (sAsg (vCall o (d_term_at T L) rfl (lCons (vVar rfl (.inl rfl)) (lCons (vBin (vVar rfl (.inl rfl)) (vBlt o rfl rfl T.b_len (lCons (vVar rfl (.inl rfl)) lNil))) lNil))) (gNm o.hN rfl (.inl rfl) (.inl rfl))) (sCons (sIf (tW (tOr (tCmp (vVar rfl (.inl rfl)) vNon) (tOr1 (tCmp (vSlc o (vVar rfl (.inl rfl)) (pSome (vSubV o rfl (.inl rfl) vInt)) (pSome (vBin (vSubV o rfl (.inl rfl) vInt) vInt))) (vStr rfl))))) (sCons (sRet vNon) sNil) sNil) (sCons (sRet (vTup (lCons (vTup (lCons (vVar rfl (.inl rfl)) (lCons (vSubV o rfl (.inl rfl) vInt) (lCons (vSubV o rfl (.inl rfl) vInt) lNil)))) (lCons (vBin (vSubV o rfl (.inl rfl) vInt) vInt) lNil)))) sNil))))))))
theorem sc_term_at : FnScope ["text", "at", "sign"] ["text", "at"] (defScope s_term_at) := ⟨rfl, rfl, rfl, by decide +kernel, rfl, by decide +kernel, by decide +kernel⟩
theorem up_term_at (T : Txt G K mg fd) {n : Nat} (L : Lv P w G K mg base fd n) : FnOk P w K mg base (L2.CX P w) (n + 1) (G.fa 5) (fd 5) ["text", "at"] (spD G ((cl (n + 1)).call 5) false 2) := by
  refine T.F_term_at.okX sc_term_at (fun vs H Q E h => h.1) (fun cdv A outer s H vs Q E hr h => ⟨tS G (fun cls d _ H => E cls d H) false (evSs (cl n) bd_term_at), ?_, def_end (f := fn_term_at) h⟩)
  have o : Bed (cxOf (L2.CX P w) P w K mg base ["text", "at", "sign"] "term_at" (defScope s_term_at) (G.fa 5) cdv A outer s H E) G (fun cls d _ H => E cls d H) n := ⟨rfl, sc_term_at.nd, T.K_, hr, takes_of rfl rfl rfl rfl⟩
  have hp := passes_of (X := cxOf (L2.CX P w) P w K mg base ["text", "at", "sign"] "term_at" (defScope s_term_at) (G.fa 5) cdv A outer s H E) rfl
  obtain ⟨t_LETTERS, h_LETTERS⟩ := T.c_LETTERS
  exact (sCons (sAsg (vSlc o (vVar rfl (.inl rfl)) (pSome (vVar rfl (.inl rfl))) (pSome (vBin (vVar rfl (.inl rfl)) vInt))) (gNm o.hN rfl (.inl rfl) (.inl rfl))) (sCons (sIf (tCmp (vVar rfl (.inl rfl)) (vStr rfl)) (sCons (sRet vNon) sNil) sNil) (sCons (sIf (tCmp (vVar rfl (.inl rfl)) (vStr rfl)) (sCons (sRet (vCall o (d_pair_at T L) rfl (lCons (vVar rfl (.inl rfl)) (lCons (vBin (vVar rfl (.inl rfl)) vInt) lNil)))) sNil) sNil) (sCons (sIf (tCmp (vVar rfl (.inl rfl)) (vGc rfl h_LETTERS rfl ⟨_, rfl⟩)) (sCons (sRet (vTup (lCons (vTup (lCons (vStr rfl) (lCons (vVar rfl (.inl rfl)) lNil))) (lCons (vBin (vVar rfl (.inl rfl)) vInt) lNil)))) sNil) sNil) (sCons (sRet (vCall o (d_taken_at T L) rfl (lCons (vVar rfl (.inl rfl)) (lCons (vVar rfl (.inl rfl)) lNil)))) sNil)))))
theorem sc_read_term : FnScope ["text", "found"] ["text"] (defScope s_read_term) := ⟨rfl, rfl, rfl, by decide +kernel, rfl, by decide +kernel, by decide +kernel⟩
theorem up_read_term (T : Txt G K mg fd) {n : Nat} (L : Lv P w G K mg base fd n) : FnOk P w K mg base (L2.CX P w) (n + 1) (G.fa 6) (fd 6) ["text"] (spD G ((cl (n + 1)).call 6) false 1) := by
  refine T.F_read_term.okX sc_read_term (fun vs H Q E h => h.1) (fun cdv A outer s H vs Q E hr h => ⟨tS G (fun cls d _ H => E cls d H) false (evSs (cl n) bd_read_term), ?_, def_end (f := fn_read_term) h⟩)
  have o : Bed (cxOf (L2.CX P w) P w K mg base ["text", "found"] "read_term" (defScope s_read_term) (G.fa 6) cdv A outer s H E) G (fun cls d _ H => E cls d H) n := ⟨rfl, sc_read_term.nd, T.K_, hr, takes_of rfl rfl rfl rfl⟩
  have hp := passes_of (X := cxOf (L2.CX P w) P w K mg base ["text", "found"] "read_term" (defScope s_read_term) (G.fa 6) cdv A outer s H E) rfl
  exact (sCons (sAsg (vCall o (d_term_at T L) rfl (lCons (vVar rfl (.inl rfl)) (lCons vInt lNil))) (gNm o.hN rfl (.inl rfl) (.inl rfl))) (sCons (sIf (tW (tOr (tCmp (vVar rfl (.inl rfl)) vNon) (tOr1 (tCmp (vSubV o rfl (.inl rfl) vInt) (vBlt o rfl rfl T.b_len (lCons (vVar rfl (.inl rfl)) lNil)))))) sNevers sNil) (sCons (sRet (vSubV o rfl (.inl rfl) vInt)) sNil)))
theorem sc_show_number : FnScope ["number", "above", "below"] ["number"] (defScope s_show_number) := ⟨rfl, rfl, rfl, by decide +kernel, rfl, by decide +kernel, by decide +kernel⟩
theorem up_show_number (T : Txt G K mg fd) {n : Nat} (L : Lv P w G K mg base fd n) : FnOk P w K mg base (L2.CX P w) (n + 1) (G.fa 7) (fd 7) ["number"] (spD G ((cl (n + 1)).call 7) false 1) := by
  refine T.F_show_number.okX sc_show_number (fun vs H Q E h => h.1) (fun cdv A outer s H vs Q E hr h => ⟨tS G (fun cls d _ H => E cls d H) false (evSs (cl n) bd_show_number), ?_, def_end (f := fn_show_number) h⟩)
  have o : Bed (cxOf (L2.CX P w) P w K mg base ["number", "above", "below"] "show_number" (defScope s_show_number) (G.fa 7) cdv A outer s H E) G (fun cls d _ H => E cls d H) n := ⟨rfl, sc_show_number.nd, T.K_, hr, takes_of rfl rfl rfl rfl⟩
  have hp := passes_of (X := cxOf (L2.CX P w) P w K mg base ["number", "above", "below"] "show_number" (defScope s_show_number) (G.fa 7) cdv A outer s H E) rfl
  exact (sCons (sAsg (vVar rfl (.inl rfl)) (gTp o (gsCons o.hN rfl (.inl rfl) (.inl rfl) (gsCons o.hN rfl (.inl rfl) (.inl rfl) gsNil)))) (sCons (sRet (vIf (tCmp (vVar rfl (.inl rfl)) vInt) (vFst1 (vVar rfl (.inl rfl))) (vFst (jVal (vVar rfl (.inl rfl)) (jLit rfl (jVal (vVar rfl (.inl rfl)) jNil)))))) sNil))
theorem sc_show_term : FnScope ["term", "kind", "between"] ["term"] (defScope s_show_term) := ⟨rfl, rfl, rfl, by decide +kernel, rfl, by decide +kernel, by decide +kernel⟩
theorem up_show_term (T : Txt G K mg fd) {n : Nat} (L : Lv P w G K mg base fd n) : FnOk P w K mg base (L2.CX P w) (n + 1) (G.fa 8) (fd 8) ["term"] (spD G ((cl (n + 1)).call 8) false 1) := by
  refine T.F_show_term.okX sc_show_term (fun vs H Q E h => h.1) (fun cdv A outer s H vs Q E hr h => ⟨tS G (fun cls d _ H => E cls d H) false (evSs (cl n) bd_show_term), ?_, def_end (f := fn_show_term) h⟩)
  have o : Bed (cxOf (L2.CX P w) P w K mg base ["term", "kind", "between"] "show_term" (defScope s_show_term) (G.fa 8) cdv A outer s H E) G (fun cls d _ H => E cls d H) n := ⟨rfl, sc_show_term.nd, T.K_, hr, takes_of rfl rfl rfl rfl⟩
  have hp := passes_of (X := cxOf (L2.CX P w) P w K mg base ["term", "kind", "between"] "show_term" (defScope s_show_term) (G.fa 8) cdv A outer s H E) rfl
  exact (sCons (sAsg (vSubV o rfl (.inl rfl) vInt) (gNm o.hN rfl (.inl rfl) (.inl rfl))) (sCons (sIf (tCmp (vVar rfl (.inl rfl)) (vStr rfl)) (sCons (sRet (vSubV o rfl (.inl rfl) vInt)) sNil) sNil) (sCons (sIf (tCmp (vVar rfl (.inl rfl)) (vStr rfl)) (sCons (sRet (vStr rfl)) sNil) sNil) (sCons (sIf (tCmp (vVar rfl (.inl rfl)) (vStr rfl)) (sCons (sRet (vBin (vBin (vBin (vCall o (d_show_number T L) rfl (lCons (vSubV o rfl (.inl rfl) vInt) lNil)) (vStr rfl)) (vCall o (d_show_term T L) rfl (lCons (vSubV o rfl (.inl rfl) vInt) lNil))) (vStr rfl))) sNil) sNil) (sCons (sAsg (vIf (tCmp (vVar rfl (.inl rfl)) (vStr rfl)) (vStr rfl) (vStr rfl)) (gNm o.hN rfl (.inl rfl) (.inl rfl))) (sCons (sRet (vBin (vBin (vBin (vBin (vStr rfl) (vCall o (d_show_term T L) rfl (lCons (vSubV o rfl (.inl rfl) vInt) lNil))) (vVar rfl (.inl rfl))) (vCall o (d_show_term T L) rfl (lCons (vSubV o rfl (.inl rfl) vInt) lNil))) (vStr rfl))) sNil))))))
theorem sc_show_monomial : FnScope ["monomial"] ["monomial"] (defScope s_show_monomial) := ⟨rfl, rfl, rfl, by decide +kernel, rfl, by decide +kernel, by decide +kernel⟩
theorem up_show_monomial (T : Txt G K mg fd) {n : Nat} (L : Lv P w G K mg base fd n) : FnOk P w K mg base (L2.CX P w) (n + 1) (G.fa 9) (fd 9) ["monomial"] (spD G ((cl (n + 1)).call 9) false 1) := by
  refine T.F_show_monomial.okX sc_show_monomial (fun vs H Q E h => h.1) (fun cdv A outer s H vs Q E hr h => ⟨tS G (fun cls d _ H => E cls d H) false (evSs (cl n) bd_show_monomial), ?_, def_end (f := fn_show_monomial) h⟩)
  have o : Bed (cxOf (L2.CX P w) P w K mg base ["monomial"] "show_monomial" (defScope s_show_monomial) (G.fa 9) cdv A outer s H E) G (fun cls d _ H => E cls d H) n := ⟨rfl, sc_show_monomial.nd, T.K_, hr, takes_of rfl rfl rfl rfl⟩
  have hp := passes_of (X := cxOf (L2.CX P w) P w K mg base ["monomial"] "show_monomial" (defScope s_show_monomial) (G.fa 9) cdv A outer s H E) rfl
  exact (sCons (sIf (tV (vIsi o rfl T.b_isinstance rfl rfl T.b_str (vVar rfl (.inl rfl)))) (sCons (sRet (vVar rfl (.inl rfl))) sNil) sNil) (sCons (sRet (vBin (vBin (vBin (vStr rfl) (vCall o (d_show_monomial T L) rfl (lCons (vSubV o rfl (.inl rfl) vInt) lNil))) (vCall o (d_show_monomial T L) rfl (lCons (vSubV o rfl (.inl rfl) vInt) lNil))) (vStr rfl))) sNil))
theorem sc__law_well : FnScope ["_law_script", "_law_place", "_law_cell"] ["_law_script", "_law_place"] (defScope s__law_well) := ⟨rfl, rfl, rfl, by decide +kernel, rfl, by decide +kernel, by decide +kernel⟩
theorem up__law_well (T : Txt G K mg fd) {n : Nat} (L : Lv P w G K mg base fd n) : FnOk P w K mg base (L2.CX P w) (n + 1) (G.fa 10) (fd 10) ["_law_script", "_law_place"] (spD G ((cl (n + 1)).call 10) false 2) := by
  refine T.F__law_well.okX sc__law_well (fun vs H Q E h => h.1) (fun cdv A outer s H vs Q E hr h => ⟨tS G (fun cls d _ H => E cls d H) false (evSs (cl n) bd__law_well), ?_, def_end (f := fn__law_well) h⟩)
  have o : Bed (cxOf (L2.CX P w) P w K mg base ["_law_script", "_law_place", "_law_cell"] "_law_well" (defScope s__law_well) (G.fa 10) cdv A outer s H E) G (fun cls d _ H => E cls d H) n := ⟨rfl, sc__law_well.nd, T.K_, hr, takes_of rfl rfl rfl rfl⟩
  have hp := passes_of (X := cxOf (L2.CX P w) P w K mg base ["_law_script", "_law_place", "_law_cell"] "_law_well" (defScope s__law_well) (G.fa 10) cdv A outer s H E) rfl
  exact (sCons (sAsg (vIf (tCmp (vVar rfl (.inl rfl)) (vBlt o rfl rfl T.b_len (lCons (vVar rfl (.inl rfl)) lNil))) (vSubV o rfl (.inl rfl) (vVar rfl (.inl rfl))) (vBin (vBin (vVar rfl (.inl rfl)) vInt) (vBin (vBlt o rfl rfl T.b_len (lCons (vVar rfl (.inl rfl)) lNil)) vInt))) (gNm o.hN rfl (.inl rfl) (.inl rfl))) (sCons (sRet (vCel (oLst (lCons (vBlt o rfl rfl T.b_max (lCons vInt (lCons (vBin (vBlt o rfl rfl T.b_abs (lCons (vVar rfl (.inl rfl)) lNil)) (vBin vInt vInt)) lNil))) (lCons (vBin (vBlt o rfl rfl T.b_int (lCons (vBin (vBin (vBin (vVar rfl (.inl rfl)) vInt) (vBin (vVar rfl (.inl rfl)) vInt)) vInt) lNil)) (vBin (vBin vInt vInt) vInt)) (lCons vInt lNil)))))) sNil))
theorem sc__law_dip : FnScope ["_law_well_here", "_law_many", "_law_drawn", "_law_mixed"] ["_law_well_here", "_law_many"] (defScope s__law_dip) := ⟨rfl, rfl, rfl, by decide +kernel, rfl, by decide +kernel, by decide +kernel⟩
theorem up__law_dip (T : Txt G K mg fd) {n : Nat} (L : Lv P w G K mg base fd n) : FnOk P w K mg base (L2.CX P w) (n + 1) (G.fa 11) (fd 11) ["_law_well_here", "_law_many"] (spD G ((cl (n + 1)).call 11) false 2) := by
  refine T.F__law_dip.okX sc__law_dip (fun vs H Q E h => h.1) (fun cdv A outer s H vs Q E hr h => ⟨tS G (fun cls d _ H => E cls d H) false (evSs (cl n) bd__law_dip), ?_, def_end (f := fn__law_dip) h⟩)
  have o : Bed (cxOf (L2.CX P w) P w K mg base ["_law_well_here", "_law_many", "_law_drawn", "_law_mixed"] "_law_dip" (defScope s__law_dip) (G.fa 11) cdv A outer s H E) G (fun cls d _ H => E cls d H) n := ⟨rfl, sc__law_dip.nd, T.K_, hr, takes_of rfl rfl rfl rfl⟩
  have hp := passes_of (X := cxOf (L2.CX P w) P w K mg base ["_law_well_here", "_law_many", "_law_drawn", "_law_mixed"] "_law_dip" (defScope s__law_dip) (G.fa 11) cdv A outer s H E) rfl
  exact (sCons (sIf (tCmp (vSubV o rfl (.inl rfl) vInt) vInt) (sCons (sAsg (vBin (vBlt o rfl rfl T.b_int (lCons (vSubV o rfl (.inl rfl) vInt) lNil)) (vVar rfl (.inl rfl))) (gNm o.hN rfl (.inl rfl) (.inl rfl))) (sCons (sSet (vBin (vSubV o rfl (.inl rfl) vInt) (vVar rfl (.inl rfl))) (vVar rfl (.inl rfl)) vInt) (sCons (sRet (vVar rfl (.inl rfl))) sNil))) sNil) (sCons (sSet (vBin (vSubV o rfl (.inl rfl) vInt) vInt) (vVar rfl (.inl rfl)) vInt) (sCons (sAsg (vBin (vBin (vBlt o rfl rfl T.b_int (lCons (vBin (vSubV o rfl (.inl rfl) vInt) (vBin vInt (vSubV o rfl (.inl rfl) vInt))) lNil)) vInt) (vBin (vBin vInt vInt) vInt)) (gNm o.hN rfl (.inl rfl) (.inl rfl))) (sCons (sAsg (vBin (vBin (vBlt o rfl rfl T.b_int (lCons (vBin (vVar rfl (.inl rfl)) (vBin vInt (vSubV o rfl (.inl rfl) vInt))) lNil)) vInt) (vBin (vBin vInt vInt) vInt)) (gNm o.hN rfl (.inl rfl) (.inl rfl))) (sCons (sRet (vBin (vBlt o rfl rfl T.b_int (lCons (vBin (vVar rfl (.inl rfl)) vInt) lNil)) (vVar rfl (.inl rfl)))) sNil)))))
theorem sc__law_common : FnScope ["_law_one", "_law_other"] ["_law_one", "_law_other"] (defScope s__law_common) := ⟨rfl, rfl, rfl, by decide +kernel, rfl, by decide +kernel, by decide +kernel⟩
theorem up__law_common (T : Txt G K mg fd) {n : Nat} (L : Lv P w G K mg base fd n) : FnOk P w K mg base (L2.CX P w) (n + 1) (G.fa 12) (fd 12) ["_law_one", "_law_other"] (spD G ((cl (n + 1)).call 12) false 2) := by
  refine T.F__law_common.okX sc__law_common (fun vs H Q E h => h.1) (fun cdv A outer s H vs Q E hr h => ⟨tS G (fun cls d _ H => E cls d H) false (evSs (cl n) bd__law_common), ?_, def_end (f := fn__law_common) h⟩)
  have o : Bed (cxOf (L2.CX P w) P w K mg base ["_law_one", "_law_other"] "_law_common" (defScope s__law_common) (G.fa 12) cdv A outer s H E) G (fun cls d _ H => E cls d H) n := ⟨rfl, sc__law_common.nd, T.K_, hr, takes_of rfl rfl rfl rfl⟩
  have hp := passes_of (X := cxOf (L2.CX P w) P w K mg base ["_law_one", "_law_other"] "_law_common" (defScope s__law_common) (G.fa 12) cdv A outer s H E) rfl
  exact (sCons (sAsg (vBlt o rfl rfl T.b_abs (lCons (vVar rfl (.inl rfl)) lNil)) (gNm o.hN rfl (.inl rfl) (.inl rfl))) (sCons (sWhl hp (tCmp (vVar rfl (.inl rfl)) vInt) (sCons (sPar o (vBin (vBlt o rfl rfl T.b_int (lCons (vVar rfl (.inl rfl)) lNil)) (vVar rfl (.inl rfl))) (vVar rfl (.inl rfl)) rfl rfl (by decide) rfl rfl) sNil)) (sCons (sRet (vVar rfl (.inl rfl))) sNil)))
theorem sc__law_pair : FnScope ["_law_well_here", "_law_mode", "_law_above", "_law_below", "_law_share"] ["_law_well_here"] (defScope s__law_pair) := ⟨rfl, rfl, rfl, by decide +kernel, rfl, by decide +kernel, by decide +kernel⟩
theorem up__law_pair (T : Txt G K mg fd) {n : Nat} (L : Lv P w G K mg base fd n) : FnOk P w K mg base (L2.CX P w) (n + 1) (G.fa 13) (fd 13) ["_law_well_here"] (spD G ((cl (n + 1)).call 13) false 1) := by
  refine T.F__law_pair.okX sc__law_pair (fun vs H Q E h => h.1) (fun cdv A outer s H vs Q E hr h => ⟨tS G (fun cls d _ H => E cls d H) false (evSs (cl n) bd__law_pair), ?_, def_end (f := fn__law_pair) h⟩)
  have o : Bed (cxOf (L2.CX P w) P w K mg base ["_law_well_here", "_law_mode", "_law_above", "_law_below", "_law_share"] "_law_pair" (defScope s__law_pair) (G.fa 13) cdv A outer s H E) G (fun cls d _ H => E cls d H) n := ⟨rfl, sc__law_pair.nd, T.K_, hr, takes_of rfl rfl rfl rfl⟩
  have hp := passes_of (X := cxOf (L2.CX P w) P w K mg base ["_law_well_here", "_law_mode", "_law_above", "_law_below", "_law_share"] "_law_pair" (defScope s__law_pair) (G.fa 13) cdv A outer s H E) rfl
  exact (sCons (sAsg (vCall o (d__law_dip T L) rfl (lCons (vVar rfl (.inl rfl)) (lCons vInt lNil))) (gNm o.hN rfl (.inl rfl) (.inl rfl))) (sCons (sAsg (vIf (tCmp (vVar rfl (.inl rfl)) vInt) (vVar rfl (.inl rfl)) (vBin vInt (vCall o (d__law_dip T L) rfl (lCons (vVar rfl (.inl rfl)) (lCons (vSub o (vLst (lCons vInt (lCons vInt (lCons vInt lNil)))) (vBin (vVar rfl (.inl rfl)) vInt)) lNil))))) (gNm o.hN rfl (.inl rfl) (.inl rfl))) (sCons (sAsg (vIf (tW (tOr (tCmp (vVar rfl (.inl rfl)) vInt) (tOr1 (tCmp (vCall o (d__law_dip T L) rfl (lCons (vVar rfl (.inl rfl)) (lCons vInt lNil))) vInt)))) vInt (vBin vInt (vCall o (d__law_dip T L) rfl (lCons (vVar rfl (.inl rfl)) (lCons (vSub o (vLst (lCons vInt (lCons vInt lNil))) (vCall o (d__law_dip T L) rfl (lCons (vVar rfl (.inl rfl)) (lCons vInt lNil)))) lNil))))) (gNm o.hN rfl (.inl rfl) (.inl rfl))) (sCons (sIf (tCmp (vCall o (d__law_dip T L) rfl (lCons (vVar rfl (.inl rfl)) (lCons vInt lNil))) vInt) (sCons (sAsg (vNeg (vVar rfl (.inl rfl))) (gNm o.hN rfl (.inl rfl) (.inl rfl))) sNil) sNil) (sCons (sAsg (vCall o (d__law_common T L) rfl (lCons (vVar rfl (.inl rfl)) (lCons (vVar rfl (.inl rfl)) lNil))) (gNm o.hN rfl (.inl rfl) (.inl rfl))) (sCons (sRet (vTup (lCons (vBin (vVar rfl (.inl rfl)) (vVar rfl (.inl rfl))) (lCons (vBin (vVar rfl (.inl rfl)) (vVar rfl (.inl rfl))) lNil)))) sNil))))))
theorem sc__law_said : FnScope ["_law_pair_here"] ["_law_pair_here"] (defScope s__law_said) := ⟨rfl, rfl, rfl, by decide +kernel, rfl, by decide +kernel, by decide +kernel⟩
theorem up__law_said (T : Txt G K mg fd) {n : Nat} (L : Lv P w G K mg base fd n) : FnOk P w K mg base (L2.CX P w) (n + 1) (G.fa 14) (fd 14) ["_law_pair_here"] (spD G ((cl (n + 1)).call 14) false 1) := by
  refine T.F__law_said.okX sc__law_said (fun vs H Q E h => h.1) (fun cdv A outer s H vs Q E hr h => ⟨tS G (fun cls d _ H => E cls d H) false (evSs (cl n) bd__law_said), ?_, def_end (f := fn__law_said) h⟩)
  have o : Bed (cxOf (L2.CX P w) P w K mg base ["_law_pair_here"] "_law_said" (defScope s__law_said) (G.fa 14) cdv A outer s H E) G (fun cls d _ H => E cls d H) n := ⟨rfl, sc__law_said.nd, T.K_, hr, takes_of rfl rfl rfl rfl⟩
  have hp := passes_of (X := cxOf (L2.CX P w) P w K mg base ["_law_pair_here"] "_law_said" (defScope s__law_said) (G.fa 14) cdv A outer s H E) rfl
  exact (sCons (sRet (vIf (tCmp (vSubV o rfl (.inl rfl) vInt) vInt) (vBlt o rfl rfl T.b_str (lCons (vSubV o rfl (.inl rfl) vInt) lNil)) (vBin (vBin (vBlt o rfl rfl T.b_str (lCons (vSubV o rfl (.inl rfl) vInt) lNil)) (vStr rfl)) (vBlt o rfl rfl T.b_str (lCons (vSubV o rfl (.inl rfl) vInt) lNil))))) sNil)
theorem sc__law_term : FnScope ["_law_well_here", "_law_room", "_law_deep", "_law_most", "_law_letters_here", "_law_mode", "_law_share", "_law_one", "_law_other"] ["_law_well_here", "_law_room", "_law_deep", "_law_most", "_law_letters_here"] (defScope s__law_term) := ⟨rfl, rfl, rfl, by decide +kernel, rfl, by decide +kernel, by decide +kernel⟩
theorem up__law_term (T : Txt G K mg fd) {n : Nat} (L : Lv P w G K mg base fd n) : FnOk P w K mg base (L2.CX P w) (n + 1) (G.fa 15) (fd 15) ["_law_well_here", "_law_room", "_law_deep", "_law_most", "_law_letters_here"] (spD G ((cl (n + 1)).call 15) false 5) := by
  refine T.F__law_term.okX sc__law_term (fun vs H Q E h => h.1) (fun cdv A outer s H vs Q E hr h => ⟨tS G (fun cls d _ H => E cls d H) false (evSs (cl n) bd__law_term), ?_, def_end (f := fn__law_term) h⟩)
  have o : Bed (cxOf (L2.CX P w) P w K mg base ["_law_well_here", "_law_room", "_law_deep", "_law_most", "_law_letters_here", "_law_mode", "_law_share", "_law_one", "_law_other"] "_law_term" (defScope s__law_term) (G.fa 15) cdv A outer s H E) G (fun cls d _ H => E cls d H) n := ⟨rfl, sc__law_term.nd, T.K_, hr, takes_of rfl rfl rfl rfl⟩
  have hp := passes_of (X := cxOf (L2.CX P w) P w K mg base ["_law_well_here", "_law_room", "_law_deep", "_law_most", "_law_letters_here", "_law_mode", "_law_share", "_law_one", "_law_other"] "_law_term" (defScope s__law_term) (G.fa 15) cdv A outer s H E) rfl
  exact (sCons (sSet (vBin (vSubV o rfl (.inl rfl) vInt) vInt) (vVar rfl (.inl rfl)) vInt) (sCons (sAsg (vCall o (d__law_dip T L) rfl (lCons (vVar rfl (.inl rfl)) (lCons vInt lNil))) (gNm o.hN rfl (.inl rfl) (.inl rfl))) (sCons (sIf (tW (tAnd (tCmp (vVar rfl (.inl rfl)) vInt) (tAnd (tCmp (vSubV o rfl (.inl rfl) vInt) vInt) (tAnd1 (tCmp (vVar rfl (.inl rfl)) vInt))))) (sCons (sSet (vBin (vSubV o rfl (.inl rfl) vInt) vInt) (vVar rfl (.inl rfl)) vInt) (sCons (sAsg (vIf (tCmp (vVar rfl (.inl rfl)) vInt) (vCall o (d__law_dip T L) rfl (lCons (vVar rfl (.inl rfl)) (lCons (vBin (vVar rfl (.inl rfl)) vInt) lNil))) (vVar rfl (.inl rfl))) (gNm o.hN rfl (.inl rfl) (.inl rfl))) (sCons (sAsg (vCall o (d__law_term T L) rfl (lCons (vVar rfl (.inl rfl)) (lCons (vVar rfl (.inl rfl)) (lCons (vBin (vVar rfl (.inl rfl)) vInt) (lCons (vVar rfl (.inl rfl)) (lCons (vVar rfl (.inl rfl)) lNil)))))) (gNm o.hN rfl (.inl rfl) (.inl rfl))) (sCons (sSet (vBin (vSubV o rfl (.inl rfl) vInt) vInt) (vVar rfl (.inl rfl)) vInt) (sCons (sAsg (vCall o (d__law_term T L) rfl (lCons (vVar rfl (.inl rfl)) (lCons (vVar rfl (.inl rfl)) (lCons (vBin (vVar rfl (.inl rfl)) vInt) (lCons (vIf (tCmp (vVar rfl (.inl rfl)) vInt) (vBin (vVar rfl (.inl rfl)) (vVar rfl (.inl rfl))) (vVar rfl (.inl rfl))) (lCons (vVar rfl (.inl rfl)) lNil)))))) (gNm o.hN rfl (.inl rfl) (.inl rfl))) (sCons (sRet (vTup (lCons (vIf (tCmp (vVar rfl (.inl rfl)) vInt) (vStr rfl) (vStr rfl)) (lCons (vVar rfl (.inl rfl)) (lCons (vVar rfl (.inl rfl)) lNil))))) sNil)))))) sNil) (sCons (sIf (tW (tAnd (tCmp (vVar rfl (.inl rfl)) vInt) (tAnd (tCmp (vSubV o rfl (.inl rfl) vInt) vInt) (tAnd1 (tCmp (vVar rfl (.inl rfl)) vInt))))) (sCons (sSet (vBin (vSubV o rfl (.inl rfl) vInt) vInt) (vVar rfl (.inl rfl)) vInt) (sCons (sRet (vTup (lCons (vStr rfl) (lCons (vCall o (d__law_pair T L) rfl (lCons (vVar rfl (.inl rfl)) lNil)) (lCons (vCall o (d__law_term T L) rfl (lCons (vVar rfl (.inl rfl)) (lCons (vVar rfl (.inl rfl)) (lCons (vBin (vVar rfl (.inl rfl)) vInt) (lCons (vVar rfl (.inl rfl)) (lCons (vVar rfl (.inl rfl)) lNil)))))) lNil))))) sNil)) sNil) (sCons (sIf (tW (tOr (tCmp (vVar rfl (.inl rfl)) vInt) (tOr1 (tW (tAnd (tCmp (vVar rfl (.inl rfl)) vInt) (tAnd1 (tCmp (vCall o (d__law_dip T L) rfl (lCons (vVar rfl (.inl rfl)) (lCons vInt lNil))) vInt))))))) (sCons (sRet (vTup (lCons (vStr rfl) lNil))) sNil) sNil) (sCons (sRet (vTup (lCons (vStr rfl) (lCons (vSubV o rfl (.inl rfl) (vCall o (d__law_dip T L) rfl (lCons (vVar rfl (.inl rfl)) (lCons (vBlt o rfl rfl T.b_len (lCons (vVar rfl (.inl rfl)) lNil)) lNil)))) lNil)))) sNil))))))
theorem sc__law_words : FnScope ["_law_tree"] ["_law_tree"] (defScope s__law_words) := ⟨rfl, rfl, rfl, by decide +kernel, rfl, by decide +kernel, by decide +kernel⟩
theorem up__law_words (T : Txt G K mg fd) {n : Nat} (L : Lv P w G K mg base fd n) : FnOk P w K mg base (L2.CX P w) (n + 1) (G.fa 16) (fd 16) ["_law_tree"] (spD G ((cl (n + 1)).call 16) false 1) := by
  refine T.F__law_words.okX sc__law_words (fun vs H Q E h => h.1) (fun cdv A outer s H vs Q E hr h => ⟨tS G (fun cls d _ H => E cls d H) false (evSs (cl n) bd__law_words), ?_, def_end (f := fn__law_words) h⟩)
  have o : Bed (cxOf (L2.CX P w) P w K mg base ["_law_tree"] "_law_words" (defScope s__law_words) (G.fa 16) cdv A outer s H E) G (fun cls d _ H => E cls d H) n := ⟨rfl, sc__law_words.nd, T.K_, hr, takes_of rfl rfl rfl rfl⟩
  have hp := passes_of (X := cxOf (L2.CX P w) P w K mg base ["_law_tree"] "_law_words" (defScope s__law_words) (G.fa 16) cdv A outer s H E) rfl
  exact (sCons (sIf (tCmp (vSubV o rfl (.inl rfl) vInt) (vStr rfl)) (sCons (sRet (vSubV o rfl (.inl rfl) vInt)) sNil) sNil) (sCons (sIf (tCmp (vSubV o rfl (.inl rfl) vInt) (vStr rfl)) (sCons (sRet (vStr rfl)) sNil) sNil) (sCons (sIf (tCmp (vSubV o rfl (.inl rfl) vInt) (vStr rfl)) (sCons (sRet (vBin (vBin (vBin (vCall o (d__law_said T L) rfl (lCons (vSubV o rfl (.inl rfl) vInt) lNil)) (vStr rfl)) (vCall o (d__law_words T L) rfl (lCons (vSubV o rfl (.inl rfl) vInt) lNil))) (vStr rfl))) sNil) sNil) (sCons (sRet (vBin (vBin (vBin (vBin (vStr rfl) (vCall o (d__law_words T L) rfl (lCons (vSubV o rfl (.inl rfl) vInt) lNil))) (vPick o rfl rfl rfl rfl (vSubV o rfl (.inl rfl) vInt))) (vCall o (d__law_words T L) rfl (lCons (vSubV o rfl (.inl rfl) vInt) lNil))) (vStr rfl))) sNil))))
theorem sc__law_letters : FnScope ["_law_well_here", "_law_left", "_law_found", "_law_turn"] ["_law_well_here"] (defScope s__law_letters) := ⟨rfl, rfl, rfl, by decide +kernel, rfl, by decide +kernel, by decide +kernel⟩
theorem up__law_letters (T : Txt G K mg fd) {n : Nat} (L : Lv P w G K mg base fd n) : FnOk P w K mg base (L2.CX P w) (n + 1) (G.fa 17) (fd 17) ["_law_well_here"] (spD G ((cl (n + 1)).call 17) false 1) := by
  refine T.F__law_letters.okX sc__law_letters (fun vs H Q E h => h.1) (fun cdv A outer s H vs Q E hr h => ⟨tS G (fun cls d _ H => E cls d H) false (evSs (cl n) bd__law_letters), ?_, def_end (f := fn__law_letters) h⟩)
  have o : Bed (cxOf (L2.CX P w) P w K mg base ["_law_well_here", "_law_left", "_law_found", "_law_turn"] "_law_letters" (defScope s__law_letters) (G.fa 17) cdv A outer s H E) G (fun cls d _ H => E cls d H) n := ⟨rfl, sc__law_letters.nd, T.K_, hr, takes_of rfl rfl rfl rfl⟩
  have hp := passes_of (X := cxOf (L2.CX P w) P w K mg base ["_law_well_here", "_law_left", "_law_found", "_law_turn"] "_law_letters" (defScope s__law_letters) (G.fa 17) cdv A outer s H E) rfl
  exact (sCons (sAsg (vTup (lCons (vStr rfl) (lCons (vStr rfl) lNil))) (gTp o (gsCons o.hN rfl (.inl rfl) (.inl rfl) (gsCons o.hN rfl (.inl rfl) (.inl rfl) gsNil)))) (sCons (sFor o hp (iR1 rfl T.b_range (vBin vInt (vCall o (d__law_dip T L) rfl (lCons (vVar rfl (.inl rfl)) (lCons vInt lNil))))) (gNm o.hN rfl (.inl rfl) (.inl rfl)) (sCons (sAsg (vBin (vVar rfl (.inl rfl)) (vSubV o rfl (.inl rfl) (vCall o (d__law_dip T L) rfl (lCons (vVar rfl (.inl rfl)) (lCons (vBlt o rfl rfl T.b_len (lCons (vVar rfl (.inl rfl)) lNil)) lNil))))) (gNm o.hN rfl (.inl rfl) (.inl rfl))) (sCons (sAsg (vRpl rfl (.inl rfl) rfl (.inl rfl)) (gNm o.hN rfl (.inl rfl) (.inl rfl))) sNil))) (sCons (sRet (vVar rfl (.inl rfl))) sNil)))
theorem sc__law_same : FnScope ["_law_told", "_law_due", "_law_kind", "_law_spot"] ["_law_told", "_law_due"] (defScope s__law_same) := ⟨rfl, rfl, rfl, by decide +kernel, rfl, by decide +kernel, by decide +kernel⟩
theorem up__law_same (T : Txt G K mg fd) {n : Nat} (L : Lv P w G K mg base fd n) : FnOk P w K mg base (L2.CX P w) (n + 1) (G.fa 18) (fd 18) ["_law_told", "_law_due"] (spD G ((cl (n + 1)).call 18) false 2) := by
  refine T.F__law_same.okX sc__law_same (fun vs H Q E h => h.1) (fun cdv A outer s H vs Q E hr h => ⟨tS G (fun cls d _ H => E cls d H) false (evSs (cl n) bd__law_same), ?_, def_end (f := fn__law_same) h⟩)
  have o : Bed (cxOf (L2.CX P w) P w K mg base ["_law_told", "_law_due", "_law_kind", "_law_spot"] "_law_same" (defScope s__law_same) (G.fa 18) cdv A outer s H E) G (fun cls d _ H => E cls d H) n := ⟨rfl, sc__law_same.nd, T.K_, hr, takes_of rfl rfl rfl rfl⟩
  have hp := passes_of (X := cxOf (L2.CX P w) P w K mg base ["_law_told", "_law_due", "_law_kind", "_law_spot"] "_law_same" (defScope s__law_same) (G.fa 18) cdv A outer s H E) rfl
  exact (sCons (sIf (tW (tOr (tV (vIsi o rfl T.b_isinstance rfl rfl T.b_tuple (vVar rfl (.inl rfl)))) (tOr1 (tV (vIsi o rfl T.b_isinstance rfl rfl T.b_list (vVar rfl (.inl rfl))))))) (sCons (sAsg (vIf (tV (vIsi o rfl T.b_isinstance rfl rfl T.b_tuple (vVar rfl (.inl rfl)))) (vIsi o rfl T.b_isinstance rfl rfl T.b_tuple (vVar rfl (.inl rfl))) (vIsi o rfl T.b_isinstance rfl rfl T.b_list (vVar rfl (.inl rfl)))) (gNm o.hN rfl (.inl rfl) (.inl rfl))) (sCons (sIf (tW (tOr (tNot (tV (vVar rfl (.inl rfl)))) (tOr1 (tCmp (vBlt o rfl rfl T.b_len (lCons (vVar rfl (.inl rfl)) lNil)) (vBlt o rfl rfl T.b_len (lCons (vVar rfl (.inl rfl)) lNil)))))) (sCons (sRet vBl) sNil) sNil) (sCons (sFor o hp (iR1 rfl T.b_range (vBlt o rfl rfl T.b_len (lCons (vVar rfl (.inl rfl)) lNil))) (gNm o.hN rfl (.inl rfl) (.inl rfl)) (sCons (sIf (tNot (tV (vCall o (d__law_same T L) rfl (lCons (vSubV o rfl (.inl rfl) (vVar rfl (.inl rfl))) (lCons (vSubV o rfl (.inl rfl) (vVar rfl (.inl rfl))) lNil))))) (sCons (sRet vBl) sNil) sNil) sNil)) (sCons (sRet vBl) sNil)))) sNil) (sCons (sIf (tV (vIsi o rfl T.b_isinstance rfl rfl T.b_str (vVar rfl (.inl rfl)))) (sCons (sRet (vAnd (vIsi o rfl T.b_isinstance rfl rfl T.b_str (vVar rfl (.inl rfl))) (vOne (vCmp (vVar rfl (.inl rfl)) (vVar rfl (.inl rfl)))))) sNil) sNil) (sCons (sRet (vAnd (vIsi o rfl T.b_isinstance rfl rfl T.b_int (vVar rfl (.inl rfl))) (vAnd (vNot (vIsi o rfl T.b_isinstance rfl rfl T.b_bool (vVar rfl (.inl rfl)))) (vOne (vCmp (vVar rfl (.inl rfl)) (vVar rfl (.inl rfl))))))) sNil)))
theorem sc__law_chain : FnScope ["_law_well_here", "_law_letters_here", "_law_tree", "_law_turn", "_law_leaf", "_law_mode"] ["_law_well_here", "_law_letters_here"] (defScope s__law_chain) := ⟨rfl, rfl, rfl, by decide +kernel, rfl, by decide +kernel, by decide +kernel⟩
theorem up__law_chain (T : Txt G K mg fd) {n : Nat} (L : Lv P w G K mg base fd n) : FnOk P w K mg base (L2.CX P w) (n + 1) (G.fa 19) (fd 19) ["_law_well_here", "_law_letters_here"] (spD G ((cl (n + 1)).call 19) false 2) := by
  refine T.F__law_chain.okX sc__law_chain (fun vs H Q E h => h.1) (fun cdv A outer s H vs Q E hr h => ⟨tS G (fun cls d _ H => E cls d H) false (evSs (cl n) bd__law_chain), ?_, def_end (f := fn__law_chain) h⟩)
  have o : Bed (cxOf (L2.CX P w) P w K mg base ["_law_well_here", "_law_letters_here", "_law_tree", "_law_turn", "_law_leaf", "_law_mode"] "_law_chain" (defScope s__law_chain) (G.fa 19) cdv A outer s H E) G (fun cls d _ H => E cls d H) n := ⟨rfl, sc__law_chain.nd, T.K_, hr, takes_of rfl rfl rfl rfl⟩
  have hp := passes_of (X := cxOf (L2.CX P w) P w K mg base ["_law_well_here", "_law_letters_here", "_law_tree", "_law_turn", "_law_leaf", "_law_mode"] "_law_chain" (defScope s__law_chain) (G.fa 19) cdv A outer s H E) rfl
  exact (sCons (sAsg (vTup (lCons (vStr rfl) (lCons (vSubV o rfl (.inl rfl) vInt) lNil))) (gNm o.hN rfl (.inl rfl) (.inl rfl))) (sCons (sFor o hp (iR1 rfl T.b_range (vCall o (d__law_dip T L) rfl (lCons (vVar rfl (.inl rfl)) (lCons vInt lNil)))) (gNm o.hN rfl (.inl rfl) (.inl rfl)) (sCons (sAsg (vSub o (vLst (lCons (vTup (lCons (vStr rfl) (lCons (vSubV o rfl (.inl rfl) (vNeg vInt)) lNil))) (lCons (vTup (lCons (vStr rfl) lNil)) lNil))) (vBlt o rfl rfl T.b_int (lCons (vCmp (vCall o (d__law_dip T L) rfl (lCons (vVar rfl (.inl rfl)) (lCons vInt lNil))) vInt) lNil))) (gNm o.hN rfl (.inl rfl) (.inl rfl))) (sCons (sAsg (vCall o (d__law_dip T L) rfl (lCons (vVar rfl (.inl rfl)) (lCons vInt lNil))) (gNm o.hN rfl (.inl rfl) (.inl rfl))) (sCons (sIf (tCmp (vVar rfl (.inl rfl)) vInt) (sCons (sAsg (vTup (lCons (vStr rfl) (lCons (vCall o (d__law_pair T L) rfl (lCons (vVar rfl (.inl rfl)) lNil)) (lCons (vVar rfl (.inl rfl)) lNil)))) (gNm o.hN rfl (.inl rfl) (.inl rfl))) sNil) (sCons (sIf (tCmp (vVar rfl (.inl rfl)) vInt) (sCons (sAsg (vTup (lCons (vSub o (vLst (lCons (vStr rfl) (lCons (vStr rfl) lNil))) (vBin (vVar rfl (.inl rfl)) vInt)) (lCons (vVar rfl (.inl rfl)) (lCons (vVar rfl (.inl rfl)) lNil)))) (gNm o.hN rfl (.inl rfl) (.inl rfl))) sNil) (sCons (sAsg (vTup (lCons (vSub o (vLst (lCons (vStr rfl) (lCons (vStr rfl) lNil))) (vBin (vVar rfl (.inl rfl)) vInt)) (lCons (vVar rfl (.inl rfl)) (lCons (vVar rfl (.inl rfl)) lNil)))) (gNm o.hN rfl (.inl rfl) (.inl rfl))) sNil)) sNil)) sNil)))) (sCons (sRet (vVar rfl (.inl rfl))) sNil)))
theorem sc__law_wide : FnScope ["_law_well_here", "_law_deep"] ["_law_well_here", "_law_deep"] (defScope s__law_wide) := ⟨rfl, rfl, rfl, by decide +kernel, rfl, by decide +kernel, by decide +kernel⟩
theorem up__law_wide (T : Txt G K mg fd) {n : Nat} (L : Lv P w G K mg base fd n) : FnOk P w K mg base (L2.CX P w) (n + 1) (G.fa 20) (fd 20) ["_law_well_here", "_law_deep"] (spD G ((cl (n + 1)).call 20) false 2) := by
  refine T.F__law_wide.okX sc__law_wide (fun vs H Q E h => h.1) (fun cdv A outer s H vs Q E hr h => ⟨tS G (fun cls d _ H => E cls d H) false (evSs (cl n) bd__law_wide), ?_, def_end (f := fn__law_wide) h⟩)
  have o : Bed (cxOf (L2.CX P w) P w K mg base ["_law_well_here", "_law_deep"] "_law_wide" (defScope s__law_wide) (G.fa 20) cdv A outer s H E) G (fun cls d _ H => E cls d H) n := ⟨rfl, sc__law_wide.nd, T.K_, hr, takes_of rfl rfl rfl rfl⟩
  have hp := passes_of (X := cxOf (L2.CX P w) P w K mg base ["_law_well_here", "_law_deep"] "_law_wide" (defScope s__law_wide) (G.fa 20) cdv A outer s H E) rfl
  exact (sCons (sIf (tCmp (vVar rfl (.inl rfl)) vInt) (sCons (sRet (vTup (lCons (vStr rfl) (lCons (vSub o (vStr rfl) (vCall o (d__law_dip T L) rfl (lCons (vVar rfl (.inl rfl)) (lCons vInt lNil)))) lNil)))) sNil) sNil) (sCons (sRet (vTup (lCons (vSub o (vLst (lCons (vStr rfl) (lCons (vStr rfl) lNil))) (vCall o (d__law_dip T L) rfl (lCons (vVar rfl (.inl rfl)) (lCons vInt lNil)))) (lCons (vCall o (d__law_wide T L) rfl (lCons (vVar rfl (.inl rfl)) (lCons (vBin (vVar rfl (.inl rfl)) vInt) lNil))) (lCons (vCall o (d__law_wide T L) rfl (lCons (vVar rfl (.inl rfl)) (lCons (vBin (vVar rfl (.inl rfl)) vInt) lNil))) lNil))))) sNil))
theorem sc__law_monomial : FnScope ["_law_well_here", "_law_many", "_law_letters_here", "_law_cut"] ["_law_well_here", "_law_many", "_law_letters_here"] (defScope s__law_monomial) := ⟨rfl, rfl, rfl, by decide +kernel, rfl, by decide +kernel, by decide +kernel⟩
theorem up__law_monomial (T : Txt G K mg fd) {n : Nat} (L : Lv P w G K mg base fd n) : FnOk P w K mg base (L2.CX P w) (n + 1) (G.fa 21) (fd 21) ["_law_well_here", "_law_many", "_law_letters_here"] (spD G ((cl (n + 1)).call 21) false 3) := by
  refine T.F__law_monomial.okX sc__law_monomial (fun vs H Q E h => h.1) (fun cdv A outer s H vs Q E hr h => ⟨tS G (fun cls d _ H => E cls d H) false (evSs (cl n) bd__law_monomial), ?_, def_end (f := fn__law_monomial) h⟩)
  have o : Bed (cxOf (L2.CX P w) P w K mg base ["_law_well_here", "_law_many", "_law_letters_here", "_law_cut"] "_law_monomial" (defScope s__law_monomial) (G.fa 21) cdv A outer s H E) G (fun cls d _ H => E cls d H) n := ⟨rfl, sc__law_monomial.nd, T.K_, hr, takes_of rfl rfl rfl rfl⟩
  have hp := passes_of (X := cxOf (L2.CX P w) P w K mg base ["_law_well_here", "_law_many", "_law_letters_here", "_law_cut"] "_law_monomial" (defScope s__law_monomial) (G.fa 21) cdv A outer s H E) rfl
  exact (sCons (sIf (tCmp (vVar rfl (.inl rfl)) vInt) (sCons (sRet (vSubV o rfl (.inl rfl) (vCall o (d__law_dip T L) rfl (lCons (vVar rfl (.inl rfl)) (lCons (vBlt o rfl rfl T.b_len (lCons (vVar rfl (.inl rfl)) lNil)) lNil))))) sNil) sNil) (sCons (sAsg (vBin vInt (vCall o (d__law_dip T L) rfl (lCons (vVar rfl (.inl rfl)) (lCons (vBin (vVar rfl (.inl rfl)) vInt) lNil)))) (gNm o.hN rfl (.inl rfl) (.inl rfl))) (sCons (sRet (vTup (lCons (vCall o (d__law_monomial T L) rfl (lCons (vVar rfl (.inl rfl)) (lCons (vVar rfl (.inl rfl)) (lCons (vVar rfl (.inl rfl)) lNil)))) (lCons (vCall o (d__law_monomial T L) rfl (lCons (vVar rfl (.inl rfl)) (lCons (vBin (vVar rfl (.inl rfl)) (vVar rfl (.inl rfl))) (lCons (vVar rfl (.inl rfl)) lNil)))) lNil)))) sNil)))
theorem sc__law_monomial_said : FnScope ["_law_tree"] ["_law_tree"] (defScope s__law_monomial_said) := ⟨rfl, rfl, rfl, by decide +kernel, rfl, by decide +kernel, by decide +kernel⟩
theorem up__law_monomial_said (T : Txt G K mg fd) {n : Nat} (L : Lv P w G K mg base fd n) : FnOk P w K mg base (L2.CX P w) (n + 1) (G.fa 22) (fd 22) ["_law_tree"] (spD G ((cl (n + 1)).call 22) false 1) := by
  refine T.F__law_monomial_said.okX sc__law_monomial_said (fun vs H Q E h => h.1) (fun cdv A outer s H vs Q E hr h => ⟨tS G (fun cls d _ H => E cls d H) false (evSs (cl n) bd__law_monomial_said), ?_, def_end (f := fn__law_monomial_said) h⟩)
  have o : Bed (cxOf (L2.CX P w) P w K mg base ["_law_tree"] "_law_monomial_said" (defScope s__law_monomial_said) (G.fa 22) cdv A outer s H E) G (fun cls d _ H => E cls d H) n := ⟨rfl, sc__law_monomial_said.nd, T.K_, hr, takes_of rfl rfl rfl rfl⟩
  have hp := passes_of (X := cxOf (L2.CX P w) P w K mg base ["_law_tree"] "_law_monomial_said" (defScope s__law_monomial_said) (G.fa 22) cdv A outer s H E) rfl
  exact (sCons (sRet (vIf (tV (vIsi o rfl T.b_isinstance rfl rfl T.b_str (vVar rfl (.inl rfl)))) (vVar rfl (.inl rfl)) (vBin (vBin (vBin (vStr rfl) (vCall o (d__law_monomial_said T L) rfl (lCons (vSubV o rfl (.inl rfl) vInt) lNil))) (vCall o (d__law_monomial_said T L) rfl (lCons (vSubV o rfl (.inl rfl) vInt) lNil))) (vStr rfl)))) sNil)
theorem sc__law_right : FnScope ["_law_well_here", "_law_letters_here", "_law_tree", "_law_said_here", "_law_longer", "_law_back", "_law_lot"] ["_law_well_here"] (defScope s__law_right) := ⟨rfl, rfl, rfl, by decide +kernel, rfl, by decide +kernel, by decide +kernel⟩
theorem up__law_right (T : Txt G K mg fd) {n : Nat} (L : Lv P w G K mg base fd n) : FnOk P w K mg base (L2.CX P w) (n + 1) (G.fa 23) (fd 23) ["_law_well_here"] (spD G ((cl (n + 1)).call 23) false 1) := by
  refine T.F__law_right.okX sc__law_right (fun vs H Q E h => h.1) (fun cdv A outer s H vs Q E hr h => ⟨tS G (fun cls d _ H => E cls d H) false (evSs (cl n) bd__law_right), ?_, def_end (f := fn__law_right) h⟩)
  have o : Bed (cxOf (L2.CX P w) P w K mg base ["_law_well_here", "_law_letters_here", "_law_tree", "_law_said_here", "_law_longer", "_law_back", "_law_lot"] "_law_right" (defScope s__law_right) (G.fa 23) cdv A outer s H E) G (fun cls d _ H => E cls d H) n := ⟨rfl, sc__law_right.nd, T.K_, hr, takes_of rfl rfl rfl rfl⟩
  have hp := passes_of (X := cxOf (L2.CX P w) P w K mg base ["_law_well_here", "_law_letters_here", "_law_tree", "_law_said_here", "_law_longer", "_law_back", "_law_lot"] "_law_right" (defScope s__law_right) (G.fa 23) cdv A outer s H E) rfl
  exact (sCons (sAsg (vCall o (d__law_letters T L) rfl (lCons (vVar rfl (.inl rfl)) lNil)) (gNm o.hN rfl (.inl rfl) (.inl rfl))) (sCons (sAsg (vCall o (d__law_term T L) rfl (lCons (vVar rfl (.inl rfl)) (lCons (vCel (oLst (lCons vInt lNil))) (lCons vInt (lCons vInt (lCons (vVar rfl (.inl rfl)) lNil)))))) (gNm o.hN rfl (.inl rfl) (.inl rfl))) (sCons (sAsg (vCall o (d__law_words T L) rfl (lCons (vVar rfl (.inl rfl)) lNil)) (gNm o.hN rfl (.inl rfl) (.inl rfl))) (sCons (sIf (tW (tOr (tNot (tV (vCall o (d__law_same T L) rfl (lCons (vCall o (d_show_term T L) rfl (lCons (vVar rfl (.inl rfl)) lNil)) (lCons (vVar rfl (.inl rfl)) lNil))))) (tOr1 (tNot (tV (vCall o (d__law_same T L) rfl (lCons (vCallK o (d_show_term T L) (T.kw_show_term_term) rfl (kCons (vVar rfl (.inl rfl)) kNil) rfl rfl (fun ds h => match ds, h with | [_], _ => rfl)) (lCons (vVar rfl (.inl rfl)) lNil)))))))) (sCons (sRet vBl) sNil) sNil) (sCons (sIf (tW (tOr (tNot (tV (vCall o (d__law_same T L) rfl (lCons (vCall o (d_read_term T L) rfl (lCons (vVar rfl (.inl rfl)) lNil)) (lCons (vVar rfl (.inl rfl)) lNil))))) (tOr1 (tNot (tV (vCall o (d__law_same T L) rfl (lCons (vCallK o (d_read_term T L) (T.kw_read_term_text) rfl (kCons (vVar rfl (.inl rfl)) kNil) rfl rfl (fun ds h => match ds, h with | [_], _ => rfl)) (lCons (vVar rfl (.inl rfl)) lNil)))))))) (sCons (sRet vBl) sNil) sNil) (sCons (sAsg (vIf (tCmp (vCall o (d__law_dip T L) rfl (lCons (vVar rfl (.inl rfl)) (lCons vInt lNil))) vInt) (vCall o (d__law_chain T L) rfl (lCons (vVar rfl (.inl rfl)) (lCons (vVar rfl (.inl rfl)) lNil))) (vCall o (d__law_wide T L) rfl (lCons (vVar rfl (.inl rfl)) (lCons (vBin vInt (vCall o (d__law_dip T L) rfl (lCons (vVar rfl (.inl rfl)) (lCons vInt lNil)))) lNil)))) (gNm o.hN rfl (.inl rfl) (.inl rfl))) (sCons (sAsg (vCall o (d_read_term T L) rfl (lCons (vCall o (d__law_words T L) rfl (lCons (vVar rfl (.inl rfl)) lNil)) lNil)) (gNm o.hN rfl (.inl rfl) (.inl rfl))) (sCons (sIf (tW (tOr (tNot (tV (vCall o (d__law_same T L) rfl (lCons (vVar rfl (.inl rfl)) (lCons (vVar rfl (.inl rfl)) lNil))))) (tOr1 (tNot (tV (vCall o (d__law_same T L) rfl (lCons (vCall o (d_show_term T L) rfl (lCons (vVar rfl (.inl rfl)) lNil)) (lCons (vCall o (d__law_words T L) rfl (lCons (vVar rfl (.inl rfl)) lNil)) lNil)))))))) (sCons (sRet vBl) sNil) sNil) (sCons (sAsg (vCall o (d__law_monomial T L) rfl (lCons (vVar rfl (.inl rfl)) (lCons (vBin vInt (vCall o (d__law_dip T L) rfl (lCons (vVar rfl (.inl rfl)) (lCons vInt lNil)))) (lCons (vVar rfl (.inl rfl)) lNil)))) (gNm o.hN rfl (.inl rfl) (.inl rfl))) (sCons (sAsg (vCall o (d__law_monomial_said T L) rfl (lCons (vVar rfl (.inl rfl)) lNil)) (gNm o.hN rfl (.inl rfl) (.inl rfl))) (sCons (sRet (vAnd (vCall o (d__law_same T L) rfl (lCons (vCall o (d_show_monomial T L) rfl (lCons (vVar rfl (.inl rfl)) lNil)) (lCons (vVar rfl (.inl rfl)) lNil))) (vOne (vCall o (d__law_same T L) rfl (lCons (vCallK o (d_show_monomial T L) (T.kw_show_monomial_monomial) rfl (kCons (vVar rfl (.inl rfl)) kNil) rfl rfl (fun ds h => match ds, h with | [_], _ => rfl)) (lCons (vVar rfl (.inl rfl)) lNil)))))) sNil)))))))))))
theorem sc_law : FnScope ["_law_script", "_law_spot", "_law_well_here", "_law_turn"] ["_law_script"] (defScope s_law) := ⟨rfl, rfl, rfl, by decide +kernel, rfl, by decide +kernel, by decide +kernel⟩
theorem up_law (T : Txt G K mg fd) {n : Nat} (L : Lv P w G K mg base fd n) : FnOk P w K mg base (L2.CX P w) (n + 1) (G.fa 24) (fd 24) ["_law_script"] (spD G ((cl (n + 1)).call 24) false 1) := by
  refine T.F_law.okX sc_law (fun vs H Q E h => h.1) (fun cdv A outer s H vs Q E hr h => ⟨tS G (fun cls d _ H => E cls d H) false (evSs (cl n) bd_law), ?_, def_end (f := fn_law) h⟩)
  have o : Bed (cxOf (L2.CX P w) P w K mg base ["_law_script", "_law_spot", "_law_well_here", "_law_turn"] "law" (defScope s_law) (G.fa 24) cdv A outer s H E) G (fun cls d _ H => E cls d H) n := ⟨rfl, sc_law.nd, T.K_, hr, takes_of rfl rfl rfl rfl⟩
  have hp := passes_of (X := cxOf (L2.CX P w) P w K mg base ["_law_script", "_law_spot", "_law_well_here", "_law_turn"] "law" (defScope s_law) (G.fa 24) cdv A outer s H E) rfl
  exact (sCons (sFor o hp (iR1 rfl T.b_range (vBlt o rfl rfl T.b_max (lCons vInt (lCons (vBlt o rfl rfl T.b_min (lCons vInt (lCons (vBlt o rfl rfl T.b_len (lCons (vVar rfl (.inl rfl)) lNil)) lNil))) lNil)))) (gNm o.hN rfl (.inl rfl) (.inl rfl)) (sCons (sAsg (vCall o (d__law_well T L) rfl (lCons (vVar rfl (.inl rfl)) (lCons (vVar rfl (.inl rfl)) lNil))) (gNm o.hN rfl (.inl rfl) (.inl rfl))) (sCons (sFor o hp (iR1 rfl T.b_range vInt) (gNm o.hN rfl (.inl rfl) (.inl rfl)) (sCons (sIf (tNot (tV (vCall o (d__law_right T L) rfl (lCons (vVar rfl (.inl rfl)) lNil)))) (sCons (sRet vBl) sNil) sNil) sNil)) sNil))) (sCons (sRet vBl) sNil))
theorem lv (T : Txt G K mg fd) : ∀ n, Lv P w G K mg base fd n
  | 0 => ⟨fn_bot, fn_bot, fn_bot, fn_bot, fn_bot, fn_bot, fn_bot, fn_bot, fn_bot, fn_bot, fn_bot, fn_bot, fn_bot, fn_bot, fn_bot, fn_bot, fn_bot, fn_bot, fn_bot, fn_bot, fn_bot, fn_bot, fn_bot, fn_bot, fn_bot⟩
  | n + 1 => ⟨up_is_number T (lv T n), up_whole_of T (lv T n), up_number_of T (lv T n), up_taken_at T (lv T n), up_pair_at T (lv T n), up_term_at T (lv T n), up_read_term T (lv T n), up_show_number T (lv T n), up_show_term T (lv T n), up_show_monomial T (lv T n), up__law_well T (lv T n), up__law_dip T (lv T n), up__law_common T (lv T n), up__law_pair T (lv T n), up__law_said T (lv T n), up__law_term T (lv T n), up__law_words T (lv T n), up__law_letters T (lv T n), up__law_same T (lv T n), up__law_chain T (lv T n), up__law_wide T (lv T n), up__law_monomial T (lv T n), up__law_monomial_said T (lv T n), up__law_right T (lv T n), up_law T (lv T n)⟩
end
abbrev fnq0 (kV dc pm : Value) (an : Option Addr) (cd ct : Value) : FuncData := PySem.W.fnOf "is_number" "is_number" (defArgs s_is_number) (defBody s_is_number) (defScope s_is_number) .none kV dc pm an cd ct
abbrev fnq1 (kV dc pm : Value) (an : Option Addr) (cd ct : Value) : FuncData := PySem.W.fnOf "whole_of" "whole_of" (defArgs s_whole_of) (defBody s_whole_of) (defScope s_whole_of) .none kV dc pm an cd ct
abbrev fnq2 (kV dc pm : Value) (an : Option Addr) (cd ct : Value) : FuncData := PySem.W.fnOf "number_of" "number_of" (defArgs s_number_of) (defBody s_number_of) (defScope s_number_of) .none kV dc pm an cd ct
abbrev fnq3 (kV dc pm : Value) (an : Option Addr) (cd ct : Value) : FuncData := PySem.W.fnOf "taken_at" "taken_at" (defArgs s_taken_at) (defBody s_taken_at) (defScope s_taken_at) .none kV dc pm an cd ct
abbrev fnq4 (kV dc pm : Value) (an : Option Addr) (cd ct : Value) : FuncData := PySem.W.fnOf "pair_at" "pair_at" (defArgs s_pair_at) (defBody s_pair_at) (defScope s_pair_at) .none kV dc pm an cd ct
abbrev fnq5 (kV dc pm : Value) (an : Option Addr) (cd ct : Value) : FuncData := PySem.W.fnOf "term_at" "term_at" (defArgs s_term_at) (defBody s_term_at) (defScope s_term_at) .none kV dc pm an cd ct
abbrev fnq6 (kV dc pm : Value) (an : Option Addr) (cd ct : Value) : FuncData := PySem.W.fnOf "read_term" "read_term" (defArgs s_read_term) (defBody s_read_term) (defScope s_read_term) .none kV dc pm an cd ct
abbrev fnq7 (kV dc pm : Value) (an : Option Addr) (cd ct : Value) : FuncData := PySem.W.fnOf "show_number" "show_number" (defArgs s_show_number) (defBody s_show_number) (defScope s_show_number) .none kV dc pm an cd ct
abbrev fnq8 (kV dc pm : Value) (an : Option Addr) (cd ct : Value) : FuncData := PySem.W.fnOf "show_term" "show_term" (defArgs s_show_term) (defBody s_show_term) (defScope s_show_term) .none kV dc pm an cd ct
abbrev fnq9 (kV dc pm : Value) (an : Option Addr) (cd ct : Value) : FuncData := PySem.W.fnOf "show_monomial" "show_monomial" (defArgs s_show_monomial) (defBody s_show_monomial) (defScope s_show_monomial) .none kV dc pm an cd ct
abbrev fnq10 (kV dc pm : Value) (an : Option Addr) (cd ct : Value) : FuncData := PySem.W.fnOf "_law_well" "_law_well" (defArgs s__law_well) (defBody s__law_well) (defScope s__law_well) .none kV dc pm an cd ct
abbrev fnq11 (kV dc pm : Value) (an : Option Addr) (cd ct : Value) : FuncData := PySem.W.fnOf "_law_dip" "_law_dip" (defArgs s__law_dip) (defBody s__law_dip) (defScope s__law_dip) .none kV dc pm an cd ct
abbrev fnq12 (kV dc pm : Value) (an : Option Addr) (cd ct : Value) : FuncData := PySem.W.fnOf "_law_common" "_law_common" (defArgs s__law_common) (defBody s__law_common) (defScope s__law_common) .none kV dc pm an cd ct
abbrev fnq13 (kV dc pm : Value) (an : Option Addr) (cd ct : Value) : FuncData := PySem.W.fnOf "_law_pair" "_law_pair" (defArgs s__law_pair) (defBody s__law_pair) (defScope s__law_pair) .none kV dc pm an cd ct
abbrev fnq14 (kV dc pm : Value) (an : Option Addr) (cd ct : Value) : FuncData := PySem.W.fnOf "_law_said" "_law_said" (defArgs s__law_said) (defBody s__law_said) (defScope s__law_said) .none kV dc pm an cd ct
abbrev fnq15 (kV dc pm : Value) (an : Option Addr) (cd ct : Value) : FuncData := PySem.W.fnOf "_law_term" "_law_term" (defArgs s__law_term) (defBody s__law_term) (defScope s__law_term) .none kV dc pm an cd ct
abbrev fnq16 (kV dc pm : Value) (an : Option Addr) (cd ct : Value) : FuncData := PySem.W.fnOf "_law_words" "_law_words" (defArgs s__law_words) (defBody s__law_words) (defScope s__law_words) .none kV dc pm an cd ct
abbrev fnq17 (kV dc pm : Value) (an : Option Addr) (cd ct : Value) : FuncData := PySem.W.fnOf "_law_letters" "_law_letters" (defArgs s__law_letters) (defBody s__law_letters) (defScope s__law_letters) .none kV dc pm an cd ct
abbrev fnq18 (kV dc pm : Value) (an : Option Addr) (cd ct : Value) : FuncData := PySem.W.fnOf "_law_same" "_law_same" (defArgs s__law_same) (defBody s__law_same) (defScope s__law_same) .none kV dc pm an cd ct
abbrev fnq19 (kV dc pm : Value) (an : Option Addr) (cd ct : Value) : FuncData := PySem.W.fnOf "_law_chain" "_law_chain" (defArgs s__law_chain) (defBody s__law_chain) (defScope s__law_chain) .none kV dc pm an cd ct
abbrev fnq20 (kV dc pm : Value) (an : Option Addr) (cd ct : Value) : FuncData := PySem.W.fnOf "_law_wide" "_law_wide" (defArgs s__law_wide) (defBody s__law_wide) (defScope s__law_wide) .none kV dc pm an cd ct
abbrev fnq21 (kV dc pm : Value) (an : Option Addr) (cd ct : Value) : FuncData := PySem.W.fnOf "_law_monomial" "_law_monomial" (defArgs s__law_monomial) (defBody s__law_monomial) (defScope s__law_monomial) .none kV dc pm an cd ct
abbrev fnq22 (kV dc pm : Value) (an : Option Addr) (cd ct : Value) : FuncData := PySem.W.fnOf "_law_monomial_said" "_law_monomial_said" (defArgs s__law_monomial_said) (defBody s__law_monomial_said) (defScope s__law_monomial_said) .none kV dc pm an cd ct
abbrev fnq23 (kV dc pm : Value) (an : Option Addr) (cd ct : Value) : FuncData := PySem.W.fnOf "_law_right" "_law_right" (defArgs s__law_right) (defBody s__law_right) (defScope s__law_right) .none kV dc pm an cd ct
abbrev fnq24 (kV dc pm : Value) (an : Option Addr) (cd ct : Value) : FuncData := PySem.W.fnOf "law" "law" (defArgs s_law) (defBody s_law) (defScope s_law) .none kV dc pm an cd ct
theorem all_mk {l : PySem.W.OpenLaw} {w : World} {K : PySem.W.Frag} {h : Heap} {mg : Str → Option Value} {fa f0 f1 f2 f3 f4 f5 f6 f7 f8 f9 f10 f11 f12 f13 f14 f15 f16 f17 f18 f19 f20 f21 f22 f23 f24 : Addr} (hplain : ∀ ns : List Int, ns.length ≤ 63 → ∃ S', (cl 200).call 24 [.ro (ns.map .int)] [] = .ok (.bl true) S') (X : K.In h) (G : h.Ns mainGlobals mg) (hfa : mg "law" = some (.ref fa))
    {od0 od1 od2 od3 od4 od5 od6 od7 od8 od9 od10 od11 od12 od13 od14 od15 od16 od17 od18 od19 od20 od21 od22 od23 od24 an0 an1 an2 an3 an4 an5 an6 an7 an8 an9 an10 an11 an12 an13 an14 an15 an16 an17 an18 an19 an20 an21 an22 an23 an24 : Option Addr} {sl0 sl1 sl2 sl3 sl4 sl5 sl6 sl7 sl8 sl9 sl10 sl11 sl12 sl13 sl14 sl15 sl16 sl17 sl18 sl19 sl20 sl21 sl22 sl23 sl24 : Array (Option Value)} {oc0 oc1 oc2 oc3 oc4 oc5 oc6 oc7 oc8 oc9 oc10 oc11 oc12 oc13 oc14 oc15 oc16 oc17 oc18 oc19 oc20 oc21 oc22 oc23 oc24 kV0 kV1 kV2 kV3 kV4 kV5 kV6 kV7 kV8 kV9 kV10 kV11 kV12 kV13 kV14 kV15 kV16 kV17 kV18 kV19 kV20 kV21 kV22 kV23 kV24 dc0 dc1 dc2 dc3 dc4 dc5 dc6 dc7 dc8 dc9 dc10 dc11 dc12 dc13 dc14 dc15 dc16 dc17 dc18 dc19 dc20 dc21 dc22 dc23 dc24 pm0 pm1 pm2 pm3 pm4 pm5 pm6 pm7 pm8 pm9 pm10 pm11 pm12 pm13 pm14 pm15 pm16 pm17 pm18 pm19 pm20 pm21 pm22 pm23 pm24 cd0 cd1 cd2 cd3 cd4 cd5 cd6 cd7 cd8 cd9 cd10 cd11 cd12 cd13 cd14 cd15 cd16 cd17 cd18 cd19 cd20 cd21 cd22 cd23 cd24 ct0 ct1 ct2 ct3 ct4 ct5 ct6 ct7 ct8 ct9 ct10 ct11 ct12 ct13 ct14 ct15 ct16 ct17 ct18 ct19 ct20 ct21 ct22 ct23 ct24 : Value}
    {t_DIGITS t_LETTERS t_MOST_DIGITS : Nat}
    (a0 : PySem.W.nsIn K mainGlobals "is_number" = some (some (.ref f0))) (l0 : K.lookup f0 = some ⟨oc0, od0, .func (fnq0 kV0 dc0 pm0 an0 cd0 ct0), sl0⟩) (c0 : PySem.W.codeIn K cd0 "is_number" = true) (k0 : PySem.W.keepIn K (.ref f0) = true)
    (a1 : PySem.W.nsIn K mainGlobals "whole_of" = some (some (.ref f1))) (l1 : K.lookup f1 = some ⟨oc1, od1, .func (fnq1 kV1 dc1 pm1 an1 cd1 ct1), sl1⟩) (c1 : PySem.W.codeIn K cd1 "whole_of" = true) (k1 : PySem.W.keepIn K (.ref f1) = true)
    (a2 : PySem.W.nsIn K mainGlobals "number_of" = some (some (.ref f2))) (l2 : K.lookup f2 = some ⟨oc2, od2, .func (fnq2 kV2 dc2 pm2 an2 cd2 ct2), sl2⟩) (c2 : PySem.W.codeIn K cd2 "number_of" = true) (k2 : PySem.W.keepIn K (.ref f2) = true)
    (a3 : PySem.W.nsIn K mainGlobals "taken_at" = some (some (.ref f3))) (l3 : K.lookup f3 = some ⟨oc3, od3, .func (fnq3 kV3 dc3 pm3 an3 cd3 ct3), sl3⟩) (c3 : PySem.W.codeIn K cd3 "taken_at" = true) (k3 : PySem.W.keepIn K (.ref f3) = true)
    (a4 : PySem.W.nsIn K mainGlobals "pair_at" = some (some (.ref f4))) (l4 : K.lookup f4 = some ⟨oc4, od4, .func (fnq4 kV4 dc4 pm4 an4 cd4 ct4), sl4⟩) (c4 : PySem.W.codeIn K cd4 "pair_at" = true) (k4 : PySem.W.keepIn K (.ref f4) = true)
    (a5 : PySem.W.nsIn K mainGlobals "term_at" = some (some (.ref f5))) (l5 : K.lookup f5 = some ⟨oc5, od5, .func (fnq5 kV5 dc5 pm5 an5 cd5 ct5), sl5⟩) (c5 : PySem.W.codeIn K cd5 "term_at" = true) (k5 : PySem.W.keepIn K (.ref f5) = true)
    (a6 : PySem.W.nsIn K mainGlobals "read_term" = some (some (.ref f6))) (l6 : K.lookup f6 = some ⟨oc6, od6, .func (fnq6 kV6 dc6 pm6 an6 cd6 ct6), sl6⟩) (c6 : PySem.W.codeIn K cd6 "read_term" = true) (k6 : PySem.W.keepIn K (.ref f6) = true)
    (a7 : PySem.W.nsIn K mainGlobals "show_number" = some (some (.ref f7))) (l7 : K.lookup f7 = some ⟨oc7, od7, .func (fnq7 kV7 dc7 pm7 an7 cd7 ct7), sl7⟩) (c7 : PySem.W.codeIn K cd7 "show_number" = true) (k7 : PySem.W.keepIn K (.ref f7) = true)
    (a8 : PySem.W.nsIn K mainGlobals "show_term" = some (some (.ref f8))) (l8 : K.lookup f8 = some ⟨oc8, od8, .func (fnq8 kV8 dc8 pm8 an8 cd8 ct8), sl8⟩) (c8 : PySem.W.codeIn K cd8 "show_term" = true) (k8 : PySem.W.keepIn K (.ref f8) = true)
    (a9 : PySem.W.nsIn K mainGlobals "show_monomial" = some (some (.ref f9))) (l9 : K.lookup f9 = some ⟨oc9, od9, .func (fnq9 kV9 dc9 pm9 an9 cd9 ct9), sl9⟩) (c9 : PySem.W.codeIn K cd9 "show_monomial" = true) (k9 : PySem.W.keepIn K (.ref f9) = true)
    (a10 : PySem.W.nsIn K mainGlobals "_law_well" = some (some (.ref f10))) (l10 : K.lookup f10 = some ⟨oc10, od10, .func (fnq10 kV10 dc10 pm10 an10 cd10 ct10), sl10⟩) (c10 : PySem.W.codeIn K cd10 "_law_well" = true) (k10 : PySem.W.keepIn K (.ref f10) = true)
    (a11 : PySem.W.nsIn K mainGlobals "_law_dip" = some (some (.ref f11))) (l11 : K.lookup f11 = some ⟨oc11, od11, .func (fnq11 kV11 dc11 pm11 an11 cd11 ct11), sl11⟩) (c11 : PySem.W.codeIn K cd11 "_law_dip" = true) (k11 : PySem.W.keepIn K (.ref f11) = true)
    (a12 : PySem.W.nsIn K mainGlobals "_law_common" = some (some (.ref f12))) (l12 : K.lookup f12 = some ⟨oc12, od12, .func (fnq12 kV12 dc12 pm12 an12 cd12 ct12), sl12⟩) (c12 : PySem.W.codeIn K cd12 "_law_common" = true) (k12 : PySem.W.keepIn K (.ref f12) = true)
    (a13 : PySem.W.nsIn K mainGlobals "_law_pair" = some (some (.ref f13))) (l13 : K.lookup f13 = some ⟨oc13, od13, .func (fnq13 kV13 dc13 pm13 an13 cd13 ct13), sl13⟩) (c13 : PySem.W.codeIn K cd13 "_law_pair" = true) (k13 : PySem.W.keepIn K (.ref f13) = true)
    (a14 : PySem.W.nsIn K mainGlobals "_law_said" = some (some (.ref f14))) (l14 : K.lookup f14 = some ⟨oc14, od14, .func (fnq14 kV14 dc14 pm14 an14 cd14 ct14), sl14⟩) (c14 : PySem.W.codeIn K cd14 "_law_said" = true) (k14 : PySem.W.keepIn K (.ref f14) = true)
    (a15 : PySem.W.nsIn K mainGlobals "_law_term" = some (some (.ref f15))) (l15 : K.lookup f15 = some ⟨oc15, od15, .func (fnq15 kV15 dc15 pm15 an15 cd15 ct15), sl15⟩) (c15 : PySem.W.codeIn K cd15 "_law_term" = true) (k15 : PySem.W.keepIn K (.ref f15) = true)
    (a16 : PySem.W.nsIn K mainGlobals "_law_words" = some (some (.ref f16))) (l16 : K.lookup f16 = some ⟨oc16, od16, .func (fnq16 kV16 dc16 pm16 an16 cd16 ct16), sl16⟩) (c16 : PySem.W.codeIn K cd16 "_law_words" = true) (k16 : PySem.W.keepIn K (.ref f16) = true)
    (a17 : PySem.W.nsIn K mainGlobals "_law_letters" = some (some (.ref f17))) (l17 : K.lookup f17 = some ⟨oc17, od17, .func (fnq17 kV17 dc17 pm17 an17 cd17 ct17), sl17⟩) (c17 : PySem.W.codeIn K cd17 "_law_letters" = true) (k17 : PySem.W.keepIn K (.ref f17) = true)
    (a18 : PySem.W.nsIn K mainGlobals "_law_same" = some (some (.ref f18))) (l18 : K.lookup f18 = some ⟨oc18, od18, .func (fnq18 kV18 dc18 pm18 an18 cd18 ct18), sl18⟩) (c18 : PySem.W.codeIn K cd18 "_law_same" = true) (k18 : PySem.W.keepIn K (.ref f18) = true)
    (a19 : PySem.W.nsIn K mainGlobals "_law_chain" = some (some (.ref f19))) (l19 : K.lookup f19 = some ⟨oc19, od19, .func (fnq19 kV19 dc19 pm19 an19 cd19 ct19), sl19⟩) (c19 : PySem.W.codeIn K cd19 "_law_chain" = true) (k19 : PySem.W.keepIn K (.ref f19) = true)
    (a20 : PySem.W.nsIn K mainGlobals "_law_wide" = some (some (.ref f20))) (l20 : K.lookup f20 = some ⟨oc20, od20, .func (fnq20 kV20 dc20 pm20 an20 cd20 ct20), sl20⟩) (c20 : PySem.W.codeIn K cd20 "_law_wide" = true) (k20 : PySem.W.keepIn K (.ref f20) = true)
    (a21 : PySem.W.nsIn K mainGlobals "_law_monomial" = some (some (.ref f21))) (l21 : K.lookup f21 = some ⟨oc21, od21, .func (fnq21 kV21 dc21 pm21 an21 cd21 ct21), sl21⟩) (c21 : PySem.W.codeIn K cd21 "_law_monomial" = true) (k21 : PySem.W.keepIn K (.ref f21) = true)
    (a22 : PySem.W.nsIn K mainGlobals "_law_monomial_said" = some (some (.ref f22))) (l22 : K.lookup f22 = some ⟨oc22, od22, .func (fnq22 kV22 dc22 pm22 an22 cd22 ct22), sl22⟩) (c22 : PySem.W.codeIn K cd22 "_law_monomial_said" = true) (k22 : PySem.W.keepIn K (.ref f22) = true)
    (a23 : PySem.W.nsIn K mainGlobals "_law_right" = some (some (.ref f23))) (l23 : K.lookup f23 = some ⟨oc23, od23, .func (fnq23 kV23 dc23 pm23 an23 cd23 ct23), sl23⟩) (c23 : PySem.W.codeIn K cd23 "_law_right" = true) (k23 : PySem.W.keepIn K (.ref f23) = true)
    (a24 : PySem.W.nsIn K mainGlobals "law" = some (some (.ref f24))) (l24 : K.lookup f24 = some ⟨oc24, od24, .func (fnq24 kV24 dc24 pm24 an24 cd24 ct24), sl24⟩) (c24 : PySem.W.codeIn K cd24 "law" = true) (k24 : PySem.W.keepIn K (.ref f24) = true)
    (z_abs : PySem.W.nsIn K mainGlobals "abs" = some none)
    (z_all : PySem.W.nsIn K mainGlobals "all" = some none)
    (z_bool : PySem.W.nsIn K mainGlobals "bool" = some none)
    (z_gcd : PySem.W.nsIn K mainGlobals "gcd" = some (some (.builtin "math.gcd")))
    (z_int : PySem.W.nsIn K mainGlobals "int" = some none)
    (z_isinstance : PySem.W.nsIn K mainGlobals "isinstance" = some none)
    (z_len : PySem.W.nsIn K mainGlobals "len" = some none)
    (z_list : PySem.W.nsIn K mainGlobals "list" = some none)
    (z_max : PySem.W.nsIn K mainGlobals "max" = some none)
    (z_min : PySem.W.nsIn K mainGlobals "min" = some none)
    (z_range : PySem.W.nsIn K mainGlobals "range" = some none)
    (z_str : PySem.W.nsIn K mainGlobals "str" = some none)
    (z_tuple : PySem.W.nsIn K mainGlobals "tuple" = some none)
    (e_DIGITS : PySem.W.nsIn K mainGlobals "DIGITS" = some (some (.str "0123456789" t_DIGITS)))
    (e_LETTERS : PySem.W.nsIn K mainGlobals "LETTERS" = some (some (.str "abcdefghijklmnopqrstuvwxyz" t_LETTERS)))
    (e_MOST_DIGITS : PySem.W.nsIn K mainGlobals "MOST_DIGITS" = some (some (.int 9 t_MOST_DIGITS)))
    : ∃ fd : FuncData, (∀ (s : Shared) (v : Value), BindsTo s fd ⟨[v], []⟩ [("_law_script", v)]) ∧ ∀ base : Heap, K.In base → base.Ns mainGlobals mg → FnOk l.prog w K mg base (L2.CX l.prog w) 200 fa fd ["_law_script"] (spLaw K) := by
  have e := hfa.symm.trans (PySem.W.mg_of X G a24)
  cases e
  refine ⟨fnq24 kV24 dc24 pm24 an24 cd24 ct24, fun s v => .of_eq rfl, fun base _ _ => ?_⟩
  have F0 := fun_mk (st := s_is_number) l0 c0 k0
  have F1 := fun_mk (st := s_whole_of) l1 c1 k1
  have F2 := fun_mk (st := s_number_of) l2 c2 k2
  have F3 := fun_mk (st := s_taken_at) l3 c3 k3
  have F4 := fun_mk (st := s_pair_at) l4 c4 k4
  have F5 := fun_mk (st := s_term_at) l5 c5 k5
  have F6 := fun_mk (st := s_read_term) l6 c6 k6
  have F7 := fun_mk (st := s_show_number) l7 c7 k7
  have F8 := fun_mk (st := s_show_term) l8 c8 k8
  have F9 := fun_mk (st := s_show_monomial) l9 c9 k9
  have F10 := fun_mk (st := s__law_well) l10 c10 k10
  have F11 := fun_mk (st := s__law_dip) l11 c11 k11
  have F12 := fun_mk (st := s__law_common) l12 c12 k12
  have F13 := fun_mk (st := s__law_pair) l13 c13 k13
  have F14 := fun_mk (st := s__law_said) l14 c14 k14
  have F15 := fun_mk (st := s__law_term) l15 c15 k15
  have F16 := fun_mk (st := s__law_words) l16 c16 k16
  have F17 := fun_mk (st := s__law_letters) l17 c17 k17
  have F18 := fun_mk (st := s__law_same) l18 c18 k18
  have F19 := fun_mk (st := s__law_chain) l19 c19 k19
  have F20 := fun_mk (st := s__law_wide) l20 c20 k20
  have F21 := fun_mk (st := s__law_monomial) l21 c21 k21
  have F22 := fun_mk (st := s__law_monomial_said) l22 c22 k22
  have F23 := fun_mk (st := s__law_right) l23 c23 k23
  have F24 := fun_mk (st := s_law) l24 c24 k24
  have T : Txt ⟨K, fun _ => 0, fun i => match i with | 0 => f0 | 1 => f1 | 2 => f2 | 3 => f3 | 4 => f4 | 5 => f5 | 6 => f6 | 7 => f7 | 8 => f8 | 9 => f9 | 10 => f10 | 11 => f11 | 12 => f12 | 13 => f13 | 14 => f14 | 15 => f15 | 16 => f16 | 17 => f17 | 18 => f18 | 19 => f19 | 20 => f20 | 21 => f21 | 22 => f22 | 23 => f23 | 24 => fa | _ => 0, fun _ => ""⟩ K mg (fun i => match i with | 0 => fnq0 kV0 dc0 pm0 an0 cd0 ct0 | 1 => fnq1 kV1 dc1 pm1 an1 cd1 ct1 | 2 => fnq2 kV2 dc2 pm2 an2 cd2 ct2 | 3 => fnq3 kV3 dc3 pm3 an3 cd3 ct3 | 4 => fnq4 kV4 dc4 pm4 an4 cd4 ct4 | 5 => fnq5 kV5 dc5 pm5 an5 cd5 ct5 | 6 => fnq6 kV6 dc6 pm6 an6 cd6 ct6 | 7 => fnq7 kV7 dc7 pm7 an7 cd7 ct7 | 8 => fnq8 kV8 dc8 pm8 an8 cd8 ct8 | 9 => fnq9 kV9 dc9 pm9 an9 cd9 ct9 | 10 => fnq10 kV10 dc10 pm10 an10 cd10 ct10 | 11 => fnq11 kV11 dc11 pm11 an11 cd11 ct11 | 12 => fnq12 kV12 dc12 pm12 an12 cd12 ct12 | 13 => fnq13 kV13 dc13 pm13 an13 cd13 ct13 | 14 => fnq14 kV14 dc14 pm14 an14 cd14 ct14 | 15 => fnq15 kV15 dc15 pm15 an15 cd15 ct15 | 16 => fnq16 kV16 dc16 pm16 an16 cd16 ct16 | 17 => fnq17 kV17 dc17 pm17 an17 cd17 ct17 | 18 => fnq18 kV18 dc18 pm18 an18 cd18 ct18 | 19 => fnq19 kV19 dc19 pm19 an19 cd19 ct19 | 20 => fnq20 kV20 dc20 pm20 an20 cd20 ct20 | 21 => fnq21 kV21 dc21 pm21 an21 cd21 ct21 | 22 => fnq22 kV22 dc22 pm22 an22 cd22 ct22 | 23 => fnq23 kV23 dc23 pm23 an23 cd23 ct23 | 24 => fnq24 kV24 dc24 pm24 an24 cd24 ct24 | _ => fnq0 kV0 dc0 pm0 an0 cd0 ct0) := by
    exact ⟨rfl,
      F0,
      PySem.W.mg_of X G a0,
      (F0.binds (ps := ["value"]) fun _ _ _ _ _ _ us hl => match us, hl with | [_], _ => rfl),
      F1,
      PySem.W.mg_of X G a1,
      (F1.binds (ps := ["text"]) fun _ _ _ _ _ _ us hl => match us, hl with | [_], _ => rfl),
      F2,
      PySem.W.mg_of X G a2,
      (F2.binds (ps := ["text"]) fun _ _ _ _ _ _ us hl => match us, hl with | [_], _ => rfl),
      F3,
      PySem.W.mg_of X G a3,
      (F3.binds (ps := ["text", "at"]) fun _ _ _ _ _ _ us hl => match us, hl with | [_, _], _ => rfl),
      F4,
      PySem.W.mg_of X G a4,
      (F4.binds (ps := ["text", "at"]) fun _ _ _ _ _ _ us hl => match us, hl with | [_, _], _ => rfl),
      F5,
      PySem.W.mg_of X G a5,
      (F5.binds (ps := ["text", "at"]) fun _ _ _ _ _ _ us hl => match us, hl with | [_, _], _ => rfl),
      F6,
      PySem.W.mg_of X G a6,
      (F6.binds (ps := ["text"]) fun _ _ _ _ _ _ us hl => match us, hl with | [_], _ => rfl),
      F7,
      PySem.W.mg_of X G a7,
      (F7.binds (ps := ["number"]) fun _ _ _ _ _ _ us hl => match us, hl with | [_], _ => rfl),
      F8,
      PySem.W.mg_of X G a8,
      (F8.binds (ps := ["term"]) fun _ _ _ _ _ _ us hl => match us, hl with | [_], _ => rfl),
      F9,
      PySem.W.mg_of X G a9,
      (F9.binds (ps := ["monomial"]) fun _ _ _ _ _ _ us hl => match us, hl with | [_], _ => rfl),
      F10,
      PySem.W.mg_of X G a10,
      (F10.binds (ps := ["_law_script", "_law_place"]) fun _ _ _ _ _ _ us hl => match us, hl with | [_, _], _ => rfl),
      F11,
      PySem.W.mg_of X G a11,
      (F11.binds (ps := ["_law_well_here", "_law_many"]) fun _ _ _ _ _ _ us hl => match us, hl with | [_, _], _ => rfl),
      F12,
      PySem.W.mg_of X G a12,
      (F12.binds (ps := ["_law_one", "_law_other"]) fun _ _ _ _ _ _ us hl => match us, hl with | [_, _], _ => rfl),
      F13,
      PySem.W.mg_of X G a13,
      (F13.binds (ps := ["_law_well_here"]) fun _ _ _ _ _ _ us hl => match us, hl with | [_], _ => rfl),
      F14,
      PySem.W.mg_of X G a14,
      (F14.binds (ps := ["_law_pair_here"]) fun _ _ _ _ _ _ us hl => match us, hl with | [_], _ => rfl),
      F15,
      PySem.W.mg_of X G a15,
      (F15.binds (ps := ["_law_well_here", "_law_room", "_law_deep", "_law_most", "_law_letters_here"]) fun _ _ _ _ _ _ us hl => match us, hl with | [_, _, _, _, _], _ => rfl),
      F16,
      PySem.W.mg_of X G a16,
      (F16.binds (ps := ["_law_tree"]) fun _ _ _ _ _ _ us hl => match us, hl with | [_], _ => rfl),
      F17,
      PySem.W.mg_of X G a17,
      (F17.binds (ps := ["_law_well_here"]) fun _ _ _ _ _ _ us hl => match us, hl with | [_], _ => rfl),
      F18,
      PySem.W.mg_of X G a18,
      (F18.binds (ps := ["_law_told", "_law_due"]) fun _ _ _ _ _ _ us hl => match us, hl with | [_, _], _ => rfl),
      F19,
      PySem.W.mg_of X G a19,
      (F19.binds (ps := ["_law_well_here", "_law_letters_here"]) fun _ _ _ _ _ _ us hl => match us, hl with | [_, _], _ => rfl),
      F20,
      PySem.W.mg_of X G a20,
      (F20.binds (ps := ["_law_well_here", "_law_deep"]) fun _ _ _ _ _ _ us hl => match us, hl with | [_, _], _ => rfl),
      F21,
      PySem.W.mg_of X G a21,
      (F21.binds (ps := ["_law_well_here", "_law_many", "_law_letters_here"]) fun _ _ _ _ _ _ us hl => match us, hl with | [_, _, _], _ => rfl),
      F22,
      PySem.W.mg_of X G a22,
      (F22.binds (ps := ["_law_tree"]) fun _ _ _ _ _ _ us hl => match us, hl with | [_], _ => rfl),
      F23,
      PySem.W.mg_of X G a23,
      (F23.binds (ps := ["_law_well_here"]) fun _ _ _ _ _ _ us hl => match us, hl with | [_], _ => rfl),
      F24,
      PySem.W.mg_of X G a24,
      (F24.binds (ps := ["_law_script"]) fun _ _ _ _ _ _ us hl => match us, hl with | [_], _ => rfl),
      PySem.W.mg_none_of X G z_abs,
      PySem.W.mg_none_of X G z_all,
      PySem.W.mg_none_of X G z_bool,
      PySem.W.mg_of X G z_gcd,
      PySem.W.mg_none_of X G z_int,
      PySem.W.mg_none_of X G z_isinstance,
      PySem.W.mg_none_of X G z_len,
      PySem.W.mg_none_of X G z_list,
      PySem.W.mg_none_of X G z_max,
      PySem.W.mg_none_of X G z_min,
      PySem.W.mg_none_of X G z_range,
      PySem.W.mg_none_of X G z_str,
      PySem.W.mg_none_of X G z_tuple,
      ⟨_, PySem.W.mg_of X G e_DIGITS⟩,
      ⟨_, PySem.W.mg_of X G e_LETTERS⟩,
      ⟨_, PySem.W.mg_of X G e_MOST_DIGITS⟩,
      (fun s ws _ hl => match ws, hl with | [_], _ => .of_eq rfl),
      (fun s ws _ hl => match ws, hl with | [_], _ => .of_eq rfl),
      (fun s ws _ hl => match ws, hl with | [_], _ => .of_eq rfl)⟩
  exact ((lv T 200).l_law).imp fun vs H Q E z => sp_law rfl hplain vs H Q E z
end K85

open PySem PySem.W PyProof.Rows
set_option maxRecDepth 100000 in
set_option maxHeartbeats 0 in
theorem PySem.Challenge.cw_toldproducts_k85_whole_terms_there_and_b_holds : PySem.Challenge.rw_toldproducts_k85_whole_terms_there_and_b.Holds := by
  w_on; o_law; k_head; (case hw => w_witness2)
  k_fill
  refine Tp.walk_law (x := "_law_script") (k := 200) (l := PySem.Challenge.rw_toldproducts_k85_whole_terms_there_and_b) rfl rfl ⟨rfl, by decide, by decide⟩ (fun w h Y => PySem.W.kIn_of Y) ?F
  case F =>
    intro w mg fa h KX G hmg
    refine' K85.all_mk K85.plain KX G hmg ?a0 ?l0 ?c0 ?k0 ?a1 ?l1 ?c1 ?k1 ?a2 ?l2 ?c2 ?k2 ?a3 ?l3 ?c3 ?k3 ?a4 ?l4 ?c4 ?k4 ?a5 ?l5 ?c5 ?k5 ?a6 ?l6 ?c6 ?k6 ?a7 ?l7 ?c7 ?k7 ?a8 ?l8 ?c8 ?k8 ?a9 ?l9 ?c9 ?k9 ?a10 ?l10 ?c10 ?k10 ?a11 ?l11 ?c11 ?k11 ?a12 ?l12 ?c12 ?k12 ?a13 ?l13 ?c13 ?k13 ?a14 ?l14 ?c14 ?k14 ?a15 ?l15 ?c15 ?k15 ?a16 ?l16 ?c16 ?k16 ?a17 ?l17 ?c17 ?k17 ?a18 ?l18 ?c18 ?k18 ?a19 ?l19 ?c19 ?k19 ?a20 ?l20 ?c20 ?k20 ?a21 ?l21 ?c21 ?k21 ?a22 ?l22 ?c22 ?k22 ?a23 ?l23 ?c23 ?k23 ?a24 ?l24 ?c24 ?k24 ?z_abs ?z_all ?z_bool ?z_gcd ?z_int ?z_isinstance ?z_len ?z_list ?z_max ?z_min ?z_range ?z_str ?z_tuple ?e_DIGITS ?e_LETTERS ?e_MOST_DIGITS
    (case a0 => k_is)
    (case l0 => k_is)
    (case c0 => k_is)
    (case k0 => k_is)
    (case a1 => k_is)
    (case l1 => k_is)
    (case c1 => k_is)
    (case k1 => k_is)
    (case a2 => k_is)
    (case l2 => k_is)
    (case c2 => k_is)
    (case k2 => k_is)
    (case a3 => k_is)
    (case l3 => k_is)
    (case c3 => k_is)
    (case k3 => k_is)
    (case a4 => k_is)
    (case l4 => k_is)
    (case c4 => k_is)
    (case k4 => k_is)
    (case a5 => k_is)
    (case l5 => k_is)
    (case c5 => k_is)
    (case k5 => k_is)
    (case a6 => k_is)
    (case l6 => k_is)
    (case c6 => k_is)
    (case k6 => k_is)
    (case a7 => k_is)
    (case l7 => k_is)
    (case c7 => k_is)
    (case k7 => k_is)
    (case a8 => k_is)
    (case l8 => k_is)
    (case c8 => k_is)
    (case k8 => k_is)
    (case a9 => k_is)
    (case l9 => k_is)
    (case c9 => k_is)
    (case k9 => k_is)
    (case a10 => k_is)
    (case l10 => k_is)
    (case c10 => k_is)
    (case k10 => k_is)
    (case a11 => k_is)
    (case l11 => k_is)
    (case c11 => k_is)
    (case k11 => k_is)
    (case a12 => k_is)
    (case l12 => k_is)
    (case c12 => k_is)
    (case k12 => k_is)
    (case a13 => k_is)
    (case l13 => k_is)
    (case c13 => k_is)
    (case k13 => k_is)
    (case a14 => k_is)
    (case l14 => k_is)
    (case c14 => k_is)
    (case k14 => k_is)
    (case a15 => k_is)
    (case l15 => k_is)
    (case c15 => k_is)
    (case k15 => k_is)
    (case a16 => k_is)
    (case l16 => k_is)
    (case c16 => k_is)
    (case k16 => k_is)
    (case a17 => k_is)
    (case l17 => k_is)
    (case c17 => k_is)
    (case k17 => k_is)
    (case a18 => k_is)
    (case l18 => k_is)
    (case c18 => k_is)
    (case k18 => k_is)
    (case a19 => k_is)
    (case l19 => k_is)
    (case c19 => k_is)
    (case k19 => k_is)
    (case a20 => k_is)
    (case l20 => k_is)
    (case c20 => k_is)
    (case k20 => k_is)
    (case a21 => k_is)
    (case l21 => k_is)
    (case c21 => k_is)
    (case k21 => k_is)
    (case a22 => k_is)
    (case l22 => k_is)
    (case c22 => k_is)
    (case k22 => k_is)
    (case a23 => k_is)
    (case l23 => k_is)
    (case c23 => k_is)
    (case k23 => k_is)
    (case a24 => k_is)
    (case l24 => k_is)
    (case c24 => k_is)
    (case k24 => k_is)
    (case z_abs => k_is)
    (case z_all => k_is)
    (case z_bool => k_is)
    (case z_gcd => k_is)
    (case z_int => k_is)
    (case z_isinstance => k_is)
    (case z_len => k_is)
    (case z_list => k_is)
    (case z_max => k_is)
    (case z_min => k_is)
    (case z_range => k_is)
    (case z_str => k_is)
    (case z_tuple => k_is)
    (case e_DIGITS => k_is)
    (case e_LETTERS => k_is)
    (case e_MOST_DIGITS => k_is)

