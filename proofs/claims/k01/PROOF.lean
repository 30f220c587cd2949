import PyProof.Rows.All
import Wide.All
import OpenK.AllK
import Wide.FinOn
import HandS.ForMost
import HandS.ForExc
import HandS.IsInst
import HandS.Deep
import HandS.TupAny
import HandS.Wide
import KE.KEqDict
import HandS.RaiseMore
import HandS.More
import HandS.Flow
import HandS.Comp
import HandS.ExcOwn
import HandS.HeadEnd
import HandS.HeadHook2
import HandS.EndBits
import KE.KStateDown
import HandS.Head0
import HandS.Head1
import HandS.Head2
import PySem.Challenge.RW_seedbed_k01_values_and_fitted_numbers
/-! The G machine: a small interpreter of Python defs over plain data. No model in sight. -/
set_option Elab.async false
set_option linter.all false
namespace G
/-- a text -/
abbrev Tx := List Char
/-- data: lst is a list that is never changed any more; ref a list, dict or object in the store -/
inductive D where
  | non | bl (b : Bool) | int (i : Int) | str (x : Tx) | tup (ds : List D) | lst (ds : List D) | ref (k : Nat)
  deriving Inhabited, Repr
mutual
def D.beq : D → D → Bool
  | .non, .non => true
  | .bl a, .bl b => a == b
  | .int a, .int b => a == b
  | .str a, .str b => a == b
  | .tup a, .tup b => D.beqs a b
  | .lst a, .lst b => D.beqs a b
  | .ref a, .ref b => a == b
  | _, _ => false
def D.beqs : List D → List D → Bool
  | [], [] => true
  | a :: as, b :: bs => D.beq a b && D.beqs as bs
  | _, _ => false
end
mutual
theorem D.beq_eq : ∀ a b : D, D.beq a b = true → a = b
  | .non, b, h => by cases b <;> simp_all [D.beq]
  | .bl _, b, h => by cases b <;> simp_all [D.beq]
  | .int _, b, h => by cases b <;> simp_all [D.beq]
  | .str _, b, h => by cases b <;> simp_all [D.beq]
  | .ref _, b, h => by cases b <;> simp_all [D.beq]
  | .tup x, b, h => by
    cases b <;> simp only [D.beq, Bool.false_eq_true] at h
    rw [D.beqs_eq _ _ h]
  | .lst x, b, h => by
    cases b <;> simp only [D.beq, Bool.false_eq_true] at h
    rw [D.beqs_eq _ _ h]
theorem D.beqs_eq : ∀ a b : List D, D.beqs a b = true → a = b
  | [], [], _ => rfl
  | [], _ :: _, h => by simp [D.beqs] at h
  | _ :: _, [], h => by simp [D.beqs] at h
  | a :: as, b :: bs, h => by
    simp only [D.beqs, Bool.and_eq_true] at h
    rw [D.beq_eq a b h.1, D.beqs_eq as bs h.2]
end
mutual
theorem D.beq_self : ∀ a : D, D.beq a a = true
  | .non => by simp [D.beq]
  | .bl _ => by simp [D.beq]
  | .int _ => by simp [D.beq]
  | .str _ => by simp [D.beq]
  | .ref _ => by simp [D.beq]
  | .tup x => by simp only [D.beq]; exact D.beqs_self x
  | .lst x => by simp only [D.beq]; exact D.beqs_self x
theorem D.beqs_self : ∀ a : List D, D.beqs a a = true
  | [] => by simp [D.beqs]
  | a :: as => by simp only [D.beqs, D.beq_self a, D.beqs_self as, Bool.and_self]
end
instance : DecidableEq D := fun a b => match h : D.beq a b with
  | true => .isTrue (D.beq_eq a b h)
  | false => .isFalse fun e => by rw [e, D.beq_self b] at h; cases h
abbrev Key := Sum Int Tx
inductive Cell where
  | lst (ds : List D) | fz (ds : List D) | dict (kvs : List (Key × D)) | obj (c : String) (fs : List (String × D))
  deriving Inhabited, Repr, DecidableEq
abbrev Mem := List Cell
abbrev Env := List (Option D)
/-- what an expression gives -/
inductive R (α : Type) where
  | ok (a : α) (μ : Mem) | ex (c : String) (μ : Mem) | bad
/-- no exception is let out -/
def R.calm {α : Type} (r : R α) : R α := match r with
  | .ok a μ => .ok a μ
  | .ex _ _ => .bad
  | .bad => .bad
def R.bind {α β : Type} (r : R α) (f : α → Mem → R β) : R β := match r with
  | .ok a μ => f a μ
  | .ex c μ => .ex c μ
  | .bad => .bad
/-- what a statement gives -/
inductive Out where
  | nx (ρ : Env) (μ : Mem) | rt (d : D) (μ : Mem) | bk (ρ : Env) (μ : Mem) | ct (ρ : Env) (μ : Mem) | ex (c : String) (ρ : Env) (μ : Mem) | bad
/-- sizes -/
def line : Nat := 16777216
/-! ### views -/
def getL (μ : Mem) : D → Option (List D)
  | .lst ds => some ds
  | .ref k => match μ[k]? with
    | some (.lst ds) => some ds
    | some (.fz ds) => some ds
    | _ => none
  | _ => none
def getT : D → Option (List D)
  | .tup ds => some ds
  | _ => none
def getS (μ : Mem) (d : D) : Option (List D) := match d with
  | .tup ds => some ds
  | d => getL μ d
/-- a list is frozen: into a tuple or a list -/
def frz1 (d : D) (μ : Mem) : D × Mem := match d with
  | .ref k => match μ[k]? with
    | some (.lst ds) => (.lst ds, μ.set k (.fz ds))
    | some (.fz ds) => (.lst ds, μ)
    | _ => (d, μ)
  | d => (d, μ)
def frz : List D → Mem → List D × Mem
  | [], μ => ([], μ)
  | d :: ds, μ => ((frz1 d μ).1 :: (frz ds (frz1 d μ).2).1, (frz ds (frz1 d μ).2).2)
/-- a new list -/
def newL (ds : List D) (μ : Mem) : R D := .ok (.ref μ.length) (μ ++ [.lst ds])
/-! ### equality -/
mutual
def D.noref : D → Bool
  | .ref _ => false
  | .tup ds => D.norefs ds
  | .lst ds => D.norefs ds
  | _ => true
def D.norefs : List D → Bool
  | [] => true
  | d :: ds => D.noref d && D.norefs ds
end
mutual
def D.depth : D → Nat
  | .tup ds => D.depths ds + 1
  | .lst ds => D.depths ds + 1
  | _ => 0
def D.depths : List D → Nat
  | [] => 0
  | d :: ds => max (D.depth d) (D.depths ds)
end
def b2i (b : Bool) : Int := if b then 1 else 0
mutual
/-- == of Python -/
def D.eqv : D → D → Bool
  | .non, .non => true
  | .bl a, .bl b => a == b
  | .bl a, .int b => b2i a == b
  | .int a, .bl b => a == b2i b
  | .int a, .int b => a == b
  | .str a, .str b => a == b
  | .tup a, .tup b => D.eqvs a b
  | .lst a, .lst b => D.eqvs a b
  | _, _ => false
def D.eqvs : List D → List D → Bool
  | [], [] => true
  | a :: as, b :: bs => D.eqv a b && D.eqvs as bs
  | _, _ => false
end
/-- a list's own data -/
def look (μ : Mem) (d : D) : D := match d with
  | .ref k => match μ[k]? with
    | some (.lst ds) => .lst ds
    | some (.fz ds) => .lst ds
    | _ => d
  | d => d
def eqSeq (μ : Mem) (a b : D) : Option Bool :=
  if (look μ a).noref && (look μ b).noref && decide (min (look μ a).depth (look μ b).depth ≤ 64) then some ((look μ a).eqv (look μ b)) else none
def dictOf (μ : Mem) (d : D) : Option (List (Key × D)) := match d with
  | .ref k => match μ[k]? with
    | some (.dict kvs) => some kvs
    | _ => none
  | _ => none
def kGet (k : Key) : List (Key × D) → Option D
  | [] => none
  | (j, d) :: r => if j = k then some d else kGet k r
def valOk (μ : Mem) (d : D) : Bool := (look μ d).noref && decide ((look μ d).depth ≤ 60)
def eqPairs (μ : Mem) (kb : List (Key × D)) : List (Key × D) → Bool
  | [] => true
  | (k, d) :: r => match kGet k kb with
    | none => false
    | some e => (look μ d).eqv (look μ e) && eqPairs μ kb r
def eqD (μ : Mem) (a b : D) : Option Bool := match dictOf μ a with
  | some ka => match dictOf μ b with
    | some kb => if ka.all (fun p => valOk μ p.2) && kb.all (fun p => valOk μ p.2) then some (decide (ka.length = kb.length) && eqPairs μ kb ka) else none
    | none => none
  | none => eqSeq μ a b
/-! ### truth -/
def truth (μ : Mem) : D → Option Bool
  | .non => some false
  | .bl b => some b
  | .int i => some (i != 0)
  | .str x => some (!x.isEmpty)
  | .tup ds => some (!ds.isEmpty)
  | .lst ds => some (!ds.isEmpty)
  | .ref k => match μ[k]? with
    | some (.lst ds) => some (!ds.isEmpty)
    | some (.fz ds) => some (!ds.isEmpty)
    | some (.dict kvs) => some (!kvs.isEmpty)
    | _ => none
/-! ### operators -/
inductive Op where
  | add | sub | mul | fdiv | mod | pow | band
  deriving DecidableEq, Repr
inductive Cmp where
  | eq | ne | lt | le | gt | ge | isin | notin | isnone | notnone
  deriving DecidableEq, Repr
def small (i : Int) : Bool := decide (-(2 ^ 64) < i) && decide (i < 2 ^ 64)
def mulOk (i j : Int) : Bool := small i || small j
def addL (a b : D) (μ : Mem) : R D := match getL μ a with
  | some x => match getL μ b with
    | some y => if x.length + y.length ≤ line then newL (x ++ y) μ else .bad
    | none => .bad
  | none => .bad
def addD (a b : D) (μ : Mem) : R D := match a with
  | .int i => match b with
    | .int j => .ok (.int (i + j)) μ
    | _ => .bad
  | .str x => match b with
    | .str y => if x.length + y.length ≤ line then .ok (.str (x ++ y)) μ else .bad
    | _ => .bad
  | .tup x => match b with
    | .tup y => if x ≠ [] ∧ x.length + y.length ≤ line then .ok (.tup (x ++ y)) μ else .bad
    | _ => .bad
  | .lst x => addL (.lst x) b μ
  | .ref k => addL (.ref k) b μ
  | _ => .bad
/-- two ints -/
def ints2 (f : Int → Int → Option D) (a b : D) (μ : Mem) : R D := match a with
  | .int i => match b with
    | .int j => match f i j with
      | some d => .ok d μ
      | none => .bad
    | _ => .bad
  | _ => .bad
def mulL (a b : D) (μ : Mem) : R D := match b with
  | .int j => match getL μ a with
    | some x => if x.length * j.toNat ≤ line ∧ -(2 ^ 63) ≤ j ∧ j < 2 ^ 63 then newL ((List.replicate j.toNat x).flatten) μ else .bad
    | none => .bad
  | _ => .bad
def mulD (a b : D) (μ : Mem) : R D := match a with
  | .int i => match b with
    | .int j => if mulOk i j then .ok (.int (i * j)) μ else .bad
    | _ => .bad
  | .str x => match b with
    | .int j => if x.length * j.toNat ≤ line ∧ 0 ≤ j ∧ j < 2 ^ 62 then .ok (.str ((List.replicate j.toNat x).flatten)) μ else .bad
    | _ => .bad
  | .ref k => mulL (.ref k) b μ
  | _ => .bad
/-- i & j, j at least 0 -/
def bandI (i j : Int) : Int := if 0 ≤ i then ((i.toNat &&& j.toNat : Nat) : Int) else j - ((j.toNat &&& (-i - 1).toNat : Nat) : Int)
def bin (op : Op) (a b : D) (μ : Mem) : R D := match op with
  | .add => addD a b μ
  | .sub => ints2 (fun i j => some (.int (i - j))) a b μ
  | .mul => mulD a b μ
  | .fdiv => ints2 (fun i j => if 0 < j ∧ j < 18446744073709551616 then some (.int (i / j)) else none) a b μ
  | .mod => ints2 (fun i j => if 0 < j then some (.int (i % j)) else none) a b μ
  | .pow => ints2 (fun i j => if 0 ≤ j ∧ j ≤ 1000000 ∧ i.natAbs < 2 ^ 64 then some (.int (i ^ j.toNat)) else none) a b μ
  | .band => ints2 (fun i j => if 0 ≤ j then some (.int (bandI i j)) else none) a b μ
def neg (a : D) (μ : Mem) : R D := match a with
  | .int i => .ok (.int (-i)) μ
  | _ => .bad
/-- texts by their signs -/
def txLt : Tx → Tx → Bool
  | _, [] => false
  | [], _ :: _ => true
  | a :: as, b :: bs => decide (a < b) || (a == b && txLt as bs)
def flat : D → Bool
  | .non => true
  | .bl _ => true
  | .int _ => true
  | .str _ => true
  | _ => false
def keyOf : D → Option Key
  | .int i => some (.inl i)
  | .str x => some (.inr x)
  | _ => none
def kSet (k : Key) (d : D) : List (Key × D) → List (Key × D)
  | [] => []
  | (j, e) :: r => (if j = k then (j, d) else (j, e)) :: kSet k d r
def kPut (k : Key) (d : D) (kvs : List (Key × D)) : List (Key × D) := if (kGet k kvs).isSome then kSet k d kvs else kvs ++ [(k, d)]
def kDel (k : Key) : List (Key × D) → List (Key × D)
  | [] => []
  | (j, e) :: r => if j = k then kDel k r else (j, e) :: kDel k r
/-- is the data in it -/
def inD (μ : Mem) (a b : D) : Option Bool := match b with
  | .str y => match a with
    | .str [c] => some (y.contains c)
    | _ => none
  | .ref k => match μ[k]? with
    | some (.dict kvs) => match keyOf a with
      | some q => some (kGet q kvs).isSome
      | none => none
    | some (.lst ds) => if flat a && ds.all flat then some (ds.any fun d => d.eqv a) else none
    | some (.fz ds) => if flat a && ds.all flat then some (ds.any fun d => d.eqv a) else none
    | _ => none
  | .tup ds => if flat a && ds.all flat then some (ds.any fun d => d.eqv a) else none
  | .lst ds => if flat a && ds.all flat then some (ds.any fun d => d.eqv a) else none
  | _ => none
def cmpD (op : Cmp) (a b : D) (μ : Mem) : Option Bool := match op with
  | .eq => eqD μ a b
  | .ne => (eqD μ a b).map not
  | .lt => match a, b with
    | .int i, .int j => some (decide (i < j))
    | .str x, .str y => some (txLt x y)
    | _, _ => none
  | .gt => match a, b with
    | .int i, .int j => some (decide (j < i))
    | .str x, .str y => some (txLt y x)
    | _, _ => none
  | .le => match a, b with
    | .int i, .int j => some (decide (i ≤ j))
    | .str x, .str y => some (!txLt y x)
    | _, _ => none
  | .ge => match a, b with
    | .int i, .int j => some (decide (j ≤ i))
    | .str x, .str y => some (!txLt x y)
    | _, _ => none
  | .isin => inD μ a b
  | .notin => (inD μ a b).map not
  | .isnone => match b with
    | .non => some (match a with
      | .non => true
      | _ => false)
    | _ => none
  | .notnone => match b with
    | .non => some (match a with
      | .non => false
      | _ => true)
    | _ => none
def cmpR (op : Cmp) (a b : D) (μ : Mem) : R D := match cmpD op a b μ with
  | some c => .ok (.bl c) μ
  | none => .bad
/-! ### places and slices -/
def place (i : Int) (n : Nat) : Option Nat :=
  if 0 ≤ i then (if i < n then some i.toNat else none) else (if 0 ≤ i + n then some (i + n).toNat else none)
def at_ {α : Type} (xs : List α) (i : Int) : Option α := (place i xs.length).bind fun k => xs[k]?
def itemL (ds : List D) (i : D) (μ : Mem) : R D := match i with
  | .int i => match at_ ds i with
    | some d => .ok d μ
    | none => .bad
  | _ => .bad
def item (a i : D) (μ : Mem) : R D := match a with
  | .str x => match i with
    | .int i => match at_ x i with
      | some c => .ok (.str [c]) μ
      | none => .bad
    | _ => .bad
  | .tup ds => itemL ds i μ
  | .lst ds => itemL ds i μ
  | .ref k => match μ[k]? with
    | some (.lst ds) => itemL ds i μ
    | some (.fz ds) => itemL ds i μ
    | some (.dict kvs) => match keyOf i with
      | some q => match kGet q kvs with
        | some d => .ok d μ
        | none => .bad
      | none => .bad
    | _ => .bad
  | _ => .bad
/-- where a slice's bound lies -/
def bound (n : Nat) (i : Int) : Nat := if i < 0 then (i + n).toNat else min i.toNat n
def cut {α : Type} (xs : List α) (lo hi : Option Int) : List α :=
  let a := match lo with
    | none => 0
    | some i => bound xs.length i
  let b := match hi with
    | none => xs.length
    | some i => bound xs.length i
  (xs.take b).drop a
def slice (a : D) (lo hi : Option Int) (μ : Mem) : R D := match a with
  | .str x => .ok (.str (cut x lo hi)) μ
  | .tup ds => .ok (.tup (cut ds lo hi)) μ
  | .lst ds => newL (cut ds lo hi) μ
  | .ref k => match μ[k]? with
    | some (.lst ds) => newL (cut ds lo hi) μ
    | some (.fz ds) => newL (cut ds lo hi) μ
    | _ => .bad
  | _ => .bad
/-! ### names of built-ins -/
inductive B where
  | len | int | str | bool | abs | list | tuple | dict | repr | sorted | sum | min | max | any | all
  deriving DecidableEq, Repr
inductive M where
  | append | pop | clear | lindex | get | join | split | startswith | endswith
  deriving DecidableEq, Repr
/-- what the receiver must be -/
def recv (m : M) (μ : Mem) (d : D) : Bool := match m with
  | .append => (getL μ d).isSome
  | .pop => (getL μ d).isSome
  | .clear => (getL μ d).isSome
  | .lindex => (getL μ d).isSome
  | .get => match d with
    | .ref k => match μ[k]? with
      | some (.dict _) => true
      | _ => false
    | _ => false
  | _ => match d with
    | .str _ => true
    | _ => false
/-- types that isinstance asks about -/
inductive Ty where
  | int | bool | str | list | tuple
  deriving DecidableEq, Repr
def isTy (μ : Mem) (d : D) : Ty → Option Bool
  | .int => match d with
    | .int _ => some true
    | .bl _ => some true
    | .ref k => match μ[k]? with
      | some (.lst _) => some false
      | some (.fz _) => some false
      | _ => none
    | _ => some false
  | .bool => match d with
    | .bl _ => some true
    | .ref k => match μ[k]? with
      | some (.lst _) => some false
      | some (.fz _) => some false
      | _ => none
    | _ => some false
  | .str => match d with
    | .str _ => some true
    | .ref k => match μ[k]? with
      | some (.lst _) => some false
      | some (.fz _) => some false
      | _ => none
    | _ => some false
  | .tuple => match d with
    | .tup _ => some true
    | .ref k => match μ[k]? with
      | some (.lst _) => some false
      | some (.fz _) => some false
      | _ => none
    | _ => some false
  | .list => match d with
    | .lst _ => some true
    | .ref k => match μ[k]? with
      | some (.lst _) => some true
      | some (.fz _) => some true
      | _ => none
    | _ => some false

/-! ### built-in functions by their data -/
def intsOf : List D → Option (List Int)
  | [] => some []
  | .int i :: r => (intsOf r).map (i :: ·)
  | _ :: _ => none
def boolsOf : List D → Option (List Bool)
  | [] => some []
  | .bl i :: r => (boolsOf r).map (i :: ·)
  | _ :: _ => none
def textsOf : List D → Option (List Tx)
  | [] => some []
  | .str i :: r => (textsOf r).map (i :: ·)
  | _ :: _ => none
def rowsOf : List D → Option (List (List Int))
  | [] => some []
  | .lst x :: r => match intsOf x with
    | some y => (rowsOf r).map (y :: ·)
    | none => none
  | _ :: _ => none
def leI (a b : Int) : Bool := decide (a ≤ b)
/-- the order of lists of ints -/
def leR : List Int → List Int → Bool
  | [], _ => true
  | _ :: _, [] => false
  | a :: as, b :: bs => decide (a < b) || (a == b && leR as bs)
def sortD (ds : List D) : Option (List D) := match intsOf ds with
  | some ns => if ns.length < 64 then some ((ns.mergeSort leI).map D.int) else none
  | none => none
def maxI : List Int → Option Int
  | [] => none
  | a :: r => some (r.foldl max a)
def minI : List Int → Option Int
  | [] => none
  | a :: r => some (r.foldl min a)
def textI (i : Int) : Tx := (toString i).toList
def fits (i : Int) : Bool := decide (i.natAbs < 2 ^ 1900)
mutual
/-- a bound of the written form's length, and whether it can be written -/
def D.wt : D → Nat
  | .non => 8
  | .bl _ => 8
  | .int _ => 2000
  | .str x => 10 * x.length + 16
  | .tup ds => D.wts ds + 8
  | .lst ds => D.wts ds + 8
  | .ref _ => 0
def D.wts : List D → Nat
  | [] => 0
  | d :: ds => D.wt d + 4 + D.wts ds
end
mutual
def D.fits : D → Bool
  | .int i => G.fits i
  | .tup ds => D.fitss ds
  | .lst ds => D.fitss ds
  | .ref _ => false
  | _ => true
def D.fitss : List D → Bool
  | [] => true
  | d :: ds => D.fits d && D.fitss ds
end
def showOk (d : D) : Bool := d.fits && decide (d.wt ≤ line) && decide (d.depth ≤ 64)
/-- a number read from a text of digits -/
def digitsVal : Tx → Option Nat
  | x => if x ≠ [] ∧ x.all Char.isDigit then some (x.foldl (fun a c => 10 * a + (c.toNat - 48)) 0) else none
def intText (x : Tx) : Option Int := match x with
  | '-' :: r => (digitsVal r).map fun n => -(n : Int)
  | r => (digitsVal r).map fun n => (n : Int)
def joinT (sep : Tx) : List Tx → Tx
  | [] => []
  | [x] => x
  | x :: y :: r => x ++ sep ++ joinT sep (y :: r)
/-- split by one sign -/
def splitT (c : Char) : Tx → List Tx
  | [] => [[]]
  | a :: r => if a = c then [] :: splitT c r else match splitT c r with
    | [] => [[a]]
    | y :: ys => (a :: y) :: ys
def bLen (a : D) (μ : Mem) : R D := match a with
  | .str x => .ok (.int x.length) μ
  | .tup ds => .ok (.int ds.length) μ
  | .lst ds => .ok (.int ds.length) μ
  | .ref k => match μ[k]? with
    | some (.lst ds) => .ok (.int ds.length) μ
    | some (.fz ds) => .ok (.int ds.length) μ
    | some (.dict kvs) => .ok (.int kvs.length) μ
    | _ => .bad
  | _ => .bad
def bInt (a : D) (μ : Mem) : R D := match a with
  | .int i => .ok (.int i) μ
  | .bl b => .ok (.int (b2i b)) μ
  | _ => .bad
def bStr (a : D) (μ : Mem) : R D := match a with
  | .int i => if fits i then .ok (.str (textI i)) μ else .bad
  | .str x => .ok (.str x) μ
  | _ => .bad
def bBool (a : D) (μ : Mem) : R D := match a with
  | .int i => .ok (.bl (i != 0)) μ
  | .bl b => .ok (.bl b) μ
  | _ => .bad
def bAbs (a : D) (μ : Mem) : R D := match a with
  | .int i => .ok (.int (if i < 0 then -i else i)) μ
  | _ => .bad
def keyD : Key → D
  | .inl i => .int i
  | .inr x => .str x
def bList (a : D) (μ : Mem) : R D := match getS μ a with
  | some ds => newL ds μ
  | none => match a with
    | .ref k => match μ[k]? with
      | some (.dict kvs) => newL (kvs.map fun p => keyD p.1) μ
      | _ => .bad
    | _ => .bad
def bTuple (a : D) (μ : Mem) : R D := match a with
  | .tup ds => .ok (.tup ds) μ
  | .lst ds => .ok (.tup ds) μ
  | .ref k => match μ[k]? with
    | some (.lst ds) => .ok (.tup ds) μ
    | some (.fz ds) => .ok (.tup ds) μ
    | _ => .bad
  | _ => .bad
def bDict (a : D) (μ : Mem) : R D := match a with
  | .ref k => match μ[k]? with
    | some (.dict kvs) => .ok (.ref μ.length) (μ ++ [.dict kvs])
    | _ => .bad
  | _ => .bad
def bRepr (rp : D → Tx) (a : D) (μ : Mem) : R D := if showOk (look μ a) then .ok (.str (rp (look μ a))) μ else .bad
def bSorted (a : D) (μ : Mem) : R D := match getL μ a with
  | some ds => match sortD ds with
    | some es => newL es μ
    | none => .bad
  | none => .bad
/-- of a list of ints -/
def bInts (f : List Int → Option Int) (a : D) (μ : Mem) : R D := match getL μ a with
  | some ds => match intsOf ds with
    | some ns => match f ns with
      | some n => .ok (.int n) μ
      | none => .bad
    | none => .bad
  | none => .bad
def bBools (f : List Bool → Bool) (a : D) (μ : Mem) : R D := match getL μ a with
  | some ds => match boolsOf ds with
    | some bs => .ok (.bl (f bs)) μ
    | none => .bad
  | none => .bad
def blt (rp : D → Tx) (f : B) (as : List D) (μ : Mem) : R D := match f, as with
  | .len, [a] => bLen a μ
  | .int, [a] => bInt a μ
  | .str, [a] => bStr a μ
  | .bool, [a] => bBool a μ
  | .abs, [a] => bAbs a μ
  | .list, [a] => bList a μ
  | .tuple, [a] => bTuple a μ
  | .dict, [a] => bDict a μ
  | .repr, [a] => bRepr rp a μ
  | .sorted, [a] => bSorted a μ
  | .sum, [a] => bInts (fun ns => some ns.sum) a μ
  | .max, [a] => bInts maxI a μ
  | .min, [a] => bInts minI a μ
  | .max, [a, b] => ints2 (fun i j => some (.int (if j > i then j else i))) a b μ
  | .min, [a, b] => ints2 (fun i j => some (.int (if j < i then j else i))) a b μ
  | .any, [a] => bBools (fun bs => bs.any id) a μ
  | .all, [a] => bBools (fun bs => bs.all id) a μ
  | _, _ => .bad
/-- the first place of a flat one -/
def findIx (a : D) : List D → Nat → Option Nat
  | [], _ => none
  | d :: ds, n => if d.eqv a then some n else findIx a ds (n + 1)
/-- a method of a built-in type -/
def mAppend (fr : Bool) (o a : D) (μ : Mem) : R D := match o with
  | .ref k => match (if fr then frz1 a μ else (a, μ)).2[k]? with
    | some (.lst ds) => if ds.length < line then .ok .non ((if fr then frz1 a μ else (a, μ)).2.set k (.lst (ds ++ [(if fr then frz1 a μ else (a, μ)).1]))) else .bad
    | _ => .bad
  | _ => .bad
def mPop (o : D) (μ : Mem) : R D := match o with
  | .ref k => match μ[k]? with
    | some (.lst ds) => match ds[ds.length - 1]? with
      | some d => .ok d (μ.set k (.lst ds.dropLast))
      | none => .bad
    | _ => .bad
  | _ => .bad
def mPopAt (o i : D) (μ : Mem) : R D := match o with
  | .ref k => match μ[k]? with
    | some (.lst ds) => match i with
      | .int i => match place i ds.length with
        | some n => match ds[n]? with
          | some d => .ok d (μ.set k (.lst (ds.eraseIdx n)))
          | none => .bad
        | none => .bad
      | _ => .bad
    | _ => .bad
  | _ => .bad
def mClear (o : D) (μ : Mem) : R D := match o with
  | .ref k => match μ[k]? with
    | some (.lst _) => .ok .non (μ.set k (.lst []))
    | _ => .bad
  | _ => .bad
def mGet (o a b : D) (μ : Mem) : R D := match o with
  | .ref k => match μ[k]? with
    | some (.dict kvs) => match keyOf a with
      | some q => .ok ((kGet q kvs).getD b) μ
      | none => .bad
    | _ => .bad
  | _ => .bad
def mJoin (o a : D) (μ : Mem) : R D := match o with
  | .str s => match getS μ a with
    | some ds => match textsOf ds with
      | some ts => if (ts.map List.length).sum + ts.length * s.length ≤ line then .ok (.str (joinT s ts)) μ else .bad
      | none => .bad
    | none => .bad
  | _ => .bad
def mText (f : Tx → Tx → Bool) (o a : D) (μ : Mem) : R D := match o with
  | .str s => match a with
    | .str t => .ok (.bl (f s t)) μ
    | _ => .bad
  | _ => .bad
def mSplit (o a : D) (μ : Mem) : R D := match o with
  | .str s => match a with
    | .str [c] => if s.length + 2 ≤ line then newL ((splitT c s).map D.str) μ else .bad
    | _ => .bad
  | _ => .bad
def mIndex (o a : D) (μ : Mem) : R D := match getL μ o with
  | some ds => if flat a && ds.all flat then (match findIx a ds 0 with
    | some n => .ok (.int n) μ
    | none => .bad) else .bad
  | none => .bad
def bmeth (fr : Bool) (o : D) (m : M) (as : List D) (μ : Mem) : R D := match m, as with
  | .append, [a] => mAppend fr o a μ
  | .pop, [] => mPop o μ
  | .pop, [i] => mPopAt o i μ
  | .clear, [] => mClear o μ
  | .get, [a, b] => mGet o a b μ
  | .lindex, [a] => mIndex o a μ
  | .join, [a] => mJoin o a μ
  | .split, [a] => mSplit o a μ
  | .startswith, [a] => mText (fun s t => t.isPrefixOf s) o a μ
  | .endswith, [a] => mText (fun s t => t.isSuffixOf s) o a μ
  | _, _ => .bad
/-- o[i] = v -/
def store (fr : Bool) (o i v : D) (μ : Mem) : Option Mem := match o with
  | .ref k => match μ[k]? with
    | some (.lst _) => match i with
      | .int i => match (if fr then frz1 v μ else (v, μ)).2[k]? with
        | some (.lst ds) => match place i ds.length with
          | some n => some ((if fr then frz1 v μ else (v, μ)).2.set k (.lst (ds.set n (if fr then frz1 v μ else (v, μ)).1)))
          | none => none
        | _ => none
      | _ => none
    | some (.dict kvs) => match keyOf i with
      | some q => if kvs.length < line then some (μ.set k (.dict (kPut q v kvs))) else none
      | none => none
    | _ => none
  | _ => none
def delKey (o i : D) (μ : Mem) : Option Mem := match o with
  | .ref k => match μ[k]? with
    | some (.dict kvs) => match keyOf i with
      | some q => if (kGet q kvs).isSome then some (μ.set k (.dict (kDel q kvs))) else none
      | none => none
    | _ => none
  | _ => none
/-! ### the program -/
mutual
inductive E where
  | var (i : Nat)
  | lit (d : D)
  | bin (op : Op) (a b : E)
  | neg (a : E)
  | not (a : E)
  | cmp (op : Cmp) (a b : E)
  | chain (op op' : Cmp) (a b c : E)
  | and (a b : E)
  | or (a b : E)
  | ite (c a b : E)
  | tup (es : Es)
  | lst (es : Es)
  | dict (ps : Ps)
  | idx (a i : E)
  | slc (a : E) (lo hi : O)
  | lc (t : T) (i : I) (e : E) (cs : Es) (own : List Nat)
  | dc (t : T) (i : I) (k v : E) (own : List Nat)
  | call (f : String) (es : Es)
  | meth (o : E) (m : String) (es : Es)
  | new (c : String) (es : Es)
  | blt (f : B) (es : Es)
  | bm (o : E) (m : M) (es : Es)
  | attr (o : E) (f : String)
  | isi (a : E) (ts : List Ty)
inductive Es where
  | nil
  | cons (e : E) (r : Es)
/-- a display's pairs -/
inductive Ps where
  | nil
  | cons (k v : E) (r : Ps)
inductive O where
  | none
  | some (e : E)
/-- what is walked -/
inductive I where
  | seq (e : E)
  | range (es : Es)
  | enum (e : E)
  | zip (a b : E)
  | rev (e : E)
/-- targets -/
inductive T where
  | name (i : Nat)
  | tup (ts : Ts)
  | attr (o : E) (f : String)
  | sub (o i : E)
inductive Ts where
  | nil
  | cons (t : T) (r : Ts)
end
mutual
inductive S where
  | expr (e : E)
  | asg (t : T) (e : E)
  | augn (i : Nat) (op : Op) (e : E)
  | auga (o : E) (f : String) (op : Op) (e : E)
  | ret (e : E)
  | retn
  | ite (c : E) (a b : Ss)
  | whil (c : E) (b : Ss)
  | for (t : T) (i : I) (b : Ss)
  | brk
  | cont
  | pass
  | raise (c : String)
  | tryx (b : Ss) (c : String) (h : Ss)
  | del (o i : E)
inductive Ss where
  | nil
  | cons (s : S) (r : Ss)
end
/-- a def: its slots' number, its parameters' number, its body -/
structure Fn where
  slots : Nat
  params : Nat
  body : Ss
/-- around a def's body: calls, the loops' fuel, the written form of data, whether lists are frozen, what an except clause takes -/
structure Ctx where
  call : String → List D → Mem → R D
  w : Nat
  rp : D → Tx
  fr : Bool
  sub : String → String → Bool
def frzIf (b : Bool) (ds : List D) (μ : Mem) : List D × Mem := if b then frz ds μ else (ds, μ)
/-! ### walks -/
/-- a list that is walked: its items; it stands as long as it holds the same -/
structure Walk where
  items : List D
  keep : Mem → Bool
def walkSeq (μ : Mem) (d : D) : Option Walk := match d with
  | .tup ds => some ⟨ds, fun _ => true⟩
  | .lst ds => some ⟨ds, fun _ => true⟩
  | .str x => some ⟨x.map fun c => .str [c], fun _ => true⟩
  | .ref k => match μ[k]? with
    | some (.lst ds) => some ⟨ds, fun μ => decide (getL μ (.ref k) = some ds)⟩
    | some (.fz ds) => some ⟨ds, fun μ => decide (getL μ (.ref k) = some ds)⟩
    | _ => none
  | _ => none
def fits62 (i : Int) : Bool := decide (-(2 ^ 62) < i) && decide (i < 2 ^ 62)
def rangeL (lo hi : Int) : List D := (List.range (hi - lo).toNat).map fun (i : Nat) => D.int (lo + (i : Int))
def walkRange : List D → Option Walk
  | [.int n] => if fits62 n then some ⟨rangeL 0 n, fun _ => true⟩ else none
  | [.int a, .int b] => if fits62 a && fits62 b then some ⟨rangeL a b, fun _ => true⟩ else none
  | _ => none
def pairUp : List D → List D → List D
  | a :: as, b :: bs => .tup [a, b] :: pairUp as bs
  | _, _ => []
def numbered (n : Nat) : List D → List D
  | [] => []
  | d :: ds => .tup [.int n, d] :: numbered (n + 1) ds
def walkEnum (μ : Mem) (d : D) : Option Walk := match getL μ d with
  | some ds => some ⟨numbered 0 ds, fun μ => decide (getL μ d = some ds)⟩
  | none => none
def walkZip (μ : Mem) (a b : D) : Option Walk := match getL μ a, getL μ b with
  | some x, some y => some ⟨pairUp x y, fun μ => decide (getL μ a = some x) && decide (getL μ b = some y)⟩
  | _, _ => none
def walkRev (μ : Mem) (d : D) : Option Walk := match getL μ d with
  | some ds => some ⟨ds.reverse, fun μ => decide (getL μ d = some ds)⟩
  | none => none
def optW (o : Option Walk) (μ : Mem) : R Walk := match o with
  | some w => .ok w μ
  | none => .bad
def optR (o : Option D) (μ : Mem) : R D := match o with
  | some w => .ok w μ
  | none => .bad
def optB (o : Option Bool) (μ : Mem) : R Bool := match o with
  | some w => .ok w μ
  | none => .bad
/-- a comprehension's turns -/
def lcL (keep : Mem → Bool) (el : D → Mem → R (Option D)) (fr : Bool) : List D → List D → Mem → R (List D)
  | [], acc, μ => if keep μ then .ok acc μ else .bad
  | d :: ds, acc, μ => if keep μ then (el d μ).bind fun y μ2 => match y with
      | some y => if acc.length < line then lcL keep el fr ds (acc ++ [if fr then (frz1 y μ2).1 else y]) (if fr then (frz1 y μ2).2 else μ2) else .bad
      | none => lcL keep el fr ds acc μ2
    else .bad
def dcL (keep : Mem → Bool) (el : D → Mem → R (D × D)) : List D → List (Key × D) → Mem → R (List (Key × D))
  | [], acc, μ => if keep μ then .ok acc μ else .bad
  | d :: ds, acc, μ => if keep μ then (el d μ).bind fun y μ2 => match keyOf y.1 with
      | some q => if acc.length < line then dcL keep el ds (kPut q y.2 acc) μ2 else .bad
      | none => .bad
    else .bad
def wipeE (ρ : Env) : List Nat → Env
  | [] => ρ
  | i :: is => (wipeE ρ is).set i none
/-! ### objects -/
def getF (μ : Mem) (o : D) (f : String) : R D := match o with
  | .ref k => match μ[k]? with
    | some (.obj _ fs) => optR (fs.lookup f) μ
    | _ => .bad
  | _ => .bad
def putF (f : String) (d : D) : List (String × D) → List (String × D)
  | [] => [(f, d)]
  | (g, x) :: r => if g = f then (g, d) :: r else (g, x) :: putF f d r
def setF (μ : Mem) (o : D) (f : String) (d : D) : Option Mem := match o with
  | .ref k => match μ[k]? with
    | some (.obj c fs) => if fs.length < 999 then some (μ.set k (.obj c (putF f d fs))) else none
    | _ => none
  | _ => none
def clsOf (μ : Mem) (o : D) : Option String := match o with
  | .ref k => match μ[k]? with
    | some (.obj c _) => some c
    | _ => none
  | _ => none
def optInt (o : Option D) : Option (Option Int) := match o with
  | none => some none
  | some (.int i) => some (some i)
  | _ => none
def isTys (μ : Mem) (d : D) : List Ty → Option Bool
  | [] => some false
  | t :: ts => match isTy μ d t with
    | some true => some true
    | some false => isTys μ d ts
    | none => none
mutual
/-- a target of names alone -/
def bindT : T → D → Env → Option Env
  | .name i, d, ρ => some (ρ.set i (some d))
  | .tup ts, d, ρ => match getT d with
    | some ds => bindTs ts ds ρ
    | none => none
  | .attr _ _, _, _ => none
  | .sub _ _, _, _ => none
def bindTs : Ts → List D → Env → Option Env
  | .nil, ds, ρ => match ds with
    | [] => some ρ
    | _ :: _ => none
  | .cons t r, ds, ρ => match ds with
    | d :: ds => match bindT t d ρ with
      | some ρ1 => bindTs r ds ρ1
      | none => none
    | [] => none
end
/-! ### expressions -/
mutual
def evalE (C : Ctx) : E → Env → Mem → R D
  | .var i, ρ, μ => match ρ[i]? with
    | some (some d) => .ok d μ
    | _ => .bad
  | .lit d, _, μ => .ok d μ
  | .bin op a b, ρ, μ => (evalE C a ρ μ).bind fun x μ1 => (evalE C b ρ μ1).bind fun y μ2 => G.bin op x y μ2
  | .neg a, ρ, μ => (evalE C a ρ μ).bind G.neg
  | .not a, ρ, μ => (evalE C a ρ μ).bind fun x μ1 => match truth μ1 x with
    | some b => .ok (.bl (!b)) μ1
    | none => .bad
  | .cmp op a b, ρ, μ => (evalE C a ρ μ).bind fun x μ1 => (evalE C b ρ μ1).bind fun y μ2 => cmpR op x y μ2
  | .chain op op' a b c, ρ, μ => (evalE C a ρ μ).bind fun x μ1 => (evalE C b ρ μ1).bind fun y μ2 => match cmpD op x y μ2 with
    | some true => (evalE C c ρ μ2).bind fun z μ3 => cmpR op' y z μ3
    | some false => .ok (.bl false) μ2
    | none => .bad
  | .and a b, ρ, μ => (evalE C a ρ μ).bind fun x μ1 => match truth μ1 x with
    | some true => evalE C b ρ μ1
    | some false => .ok x μ1
    | none => .bad
  | .or a b, ρ, μ => (evalE C a ρ μ).bind fun x μ1 => match truth μ1 x with
    | some true => .ok x μ1
    | some false => evalE C b ρ μ1
    | none => .bad
  | .ite c a b, ρ, μ => (evalE C c ρ μ).bind fun x μ1 => match truth μ1 x with
    | some true => evalE C a ρ μ1
    | some false => evalE C b ρ μ1
    | none => .bad
  | .tup es, ρ, μ => (evalEs C es ρ μ).bind fun ds μ1 => if ds.length ≤ line then .ok (.tup (frzIf C.fr ds μ1).1) (frzIf C.fr ds μ1).2 else .bad
  | .lst es, ρ, μ => (evalEs C es ρ μ).bind fun ds μ1 => if ds.length ≤ line then newL (frzIf C.fr ds μ1).1 (frzIf C.fr ds μ1).2 else .bad
  | .dict ps, ρ, μ => (evalPs C ps ρ μ).bind fun kvs μ1 => .ok (.ref μ1.length) (μ1 ++ [.dict (kvs.foldl (fun acc p => kPut p.1 p.2 acc) [])])
  | .idx a i, ρ, μ => (evalE C a ρ μ).bind fun x μ1 => (evalE C i ρ μ1).bind fun y μ2 => item x y μ2
  | .slc a lo hi, ρ, μ => (evalE C a ρ μ).bind fun x μ1 => (evalO C lo ρ μ1).bind fun l μ2 => match optInt l with
    | some l => (evalO C hi ρ μ2).bind fun h μ3 => (match optInt h with
      | some h => slice x l h μ3
      | none => .bad)
    | none => .bad
  | .lc t i e cs own, ρ, μ => (walkI C i ρ μ).bind fun w μ1 => 
      (lcL w.keep (fun d μ2 => match bindT t d (wipeE ρ own) with
        | some ρ1 => (testEs C cs ρ1 μ2).bind fun b μ3 => if b then (evalE C e ρ1 μ3).bind fun y μ4 => .ok (some y) μ4 else .ok none μ3
        | none => .bad) C.fr w.items [] μ1).calm.bind newL
  | .dc t i k v own, ρ, μ => (walkI C i ρ μ).bind fun w μ1 => 
      (dcL w.keep (fun d μ2 => match bindT t d (wipeE ρ own) with
        | some ρ1 => (evalE C k ρ1 μ2).bind fun x μ3 => (evalE C v ρ1 μ3).bind fun y μ4 => .ok (x, y) μ4
        | none => .bad) w.items [] μ1).calm.bind fun kvs μ2 => .ok (.ref μ2.length) (μ2 ++ [.dict kvs])
  | .call f es, ρ, μ => (evalEs C es ρ μ).bind fun ds μ1 => C.call f ds μ1
  | .meth o m es, ρ, μ => (evalE C o ρ μ).bind fun x μ1 => match clsOf μ1 x with
    | some c => (evalEs C es ρ μ1).bind fun ds μ2 => C.call (c ++ "." ++ m) (x :: ds) μ2
    | none => .bad
  | .new c es, ρ, μ => (evalEs C es ρ μ).bind fun ds μ1 => (C.call (c ++ ".__init__") (.ref μ1.length :: ds) (μ1 ++ [.obj c []])).bind fun r μ2 => match r with
    | .non => .ok (.ref μ1.length) μ2
    | _ => .bad
  | .blt f es, ρ, μ => (evalEs C es ρ μ).bind fun ds μ1 => G.blt C.rp f ds μ1
  | .bm o m es, ρ, μ => (evalE C o ρ μ).bind fun x μ1 => if recv m μ1 x then (evalEs C es ρ μ1).bind fun ds μ2 => bmeth C.fr x m ds μ2 else .bad
  | .attr o f, ρ, μ => (evalE C o ρ μ).bind fun x μ1 => getF μ1 x f
  | .isi a ts, ρ, μ => (evalE C a ρ μ).bind fun x μ1 => match isTys μ1 x ts with
    | some b => .ok (.bl b) μ1
    | none => .bad
def evalEs (C : Ctx) : Es → Env → Mem → R (List D)
  | .nil, _, μ => .ok [] μ
  | .cons e r, ρ, μ => (evalE C e ρ μ).bind fun x μ1 => (evalEs C r ρ μ1).bind fun xs μ2 => .ok (x :: xs) μ2
def evalO (C : Ctx) : O → Env → Mem → R (Option D)
  | .none, _, μ => .ok none μ
  | .some e, ρ, μ => (evalE C e ρ μ).bind fun x μ1 => .ok (some x) μ1
def evalPs (C : Ctx) : Ps → Env → Mem → R (List (Key × D))
  | .nil, _, μ => .ok [] μ
  | .cons k v r, ρ, μ => (evalE C k ρ μ).bind fun x μ1 => (evalE C v ρ μ1).bind fun y μ2 => match keyOf x with
    | some q => (evalPs C r ρ μ2).bind fun xs μ3 => .ok ((q, y) :: xs) μ3
    | none => .bad
def testEs (C : Ctx) : Es → Env → Mem → R Bool
  | .nil, _, μ => .ok true μ
  | .cons e r, ρ, μ => (evalE C e ρ μ).bind fun x μ1 => match truth μ1 x with
    | some true => testEs C r ρ μ1
    | some false => .ok false μ1
    | none => .bad
def walkI (C : Ctx) : I → Env → Mem → R Walk
  | .seq e, ρ, μ => (evalE C e ρ μ).bind fun x μ1 => optW (walkSeq μ1 x) μ1
  | .range es, ρ, μ => (evalEs C es ρ μ).bind fun ds μ1 => optW (walkRange ds) μ1
  | .enum e, ρ, μ => (evalE C e ρ μ).bind fun x μ1 => optW (walkEnum μ1 x) μ1
  | .zip a b, ρ, μ => (evalE C a ρ μ).bind fun x μ1 => (evalE C b ρ μ1).bind fun y μ2 => optW (walkZip μ2 x y) μ2
  | .rev e, ρ, μ => (evalE C e ρ μ).bind fun x μ1 => optW (walkRev μ1 x) μ1
end
/-! ### statements -/
def Out.of (r : R D) (ρ : Env) (f : D → Mem → Out) : Out := match r with
  | .ok d μ => f d μ
  | .ex c μ => .ex c ρ μ
  | .bad => .bad
/-- a test's outcome -/
def Out.test (r : R D) (ρ : Env) (f : Bool → Mem → Out) : Out := match r with
  | .ok d μ => match truth μ d with
    | some b => f b μ
    | none => .bad
  | .ex c μ => .ex c ρ μ
  | .bad => .bad
def lenTs : Ts → Nat
  | .nil => 0
  | .cons _ r => lenTs r + 1
mutual
/-- d into a target -/
def asgT (C : Ctx) : T → D → Env → Mem → Out
  | .name i, d, ρ, μ => .nx (ρ.set i (some d)) μ
  | .tup ts, d, ρ, μ => match getT d with
    | some ds => if ds.length = lenTs ts then asgTs C ts ds ρ μ else .bad
    | none => .bad
  | .attr o f, d, ρ, μ => Out.of (evalE C o ρ μ) ρ fun x μ1 => match setF μ1 x f d with
    | some μ2 => .nx ρ μ2
    | none => .bad
  | .sub o i, d, ρ, μ => Out.of (evalE C o ρ μ) ρ fun x μ1 => Out.of (evalE C i ρ μ1) ρ fun y μ2 => match store C.fr x y d μ2 with
    | some μ3 => .nx ρ μ3
    | none => .bad
def asgTs (C : Ctx) : Ts → List D → Env → Mem → Out
  | .nil, ds, ρ, μ => match ds with
    | [] => .nx ρ μ
    | _ :: _ => .bad
  | .cons t r, ds, ρ, μ => match ds with
    | d :: ds => match asgT C t d ρ μ with
      | .nx ρ1 μ1 => asgTs C r ds ρ1 μ1
      | o => o
    | [] => .bad
end
def forL (keep : Mem → Bool) (step : D → Env → Mem → Out) : List D → Env → Mem → Out
  | [], ρ, μ => if keep μ then .nx ρ μ else .bad
  | d :: ds, ρ, μ => if keep μ then (match step d ρ μ with
    | .nx ρ1 μ1 => forL keep step ds ρ1 μ1
    | .ct ρ1 μ1 => forL keep step ds ρ1 μ1
    | .bk ρ1 μ1 => .nx ρ1 μ1
    | .rt d μ1 => .rt d μ1
    | .ex c ρ1 μ1 => .ex c ρ1 μ1
    | .bad => .bad) else .bad
def whileL (test : Env → Mem → R D) (step : Env → Mem → Out) : Nat → Env → Mem → Out
  | 0, _, _ => .bad
  | n + 1, ρ, μ => Out.test (test ρ μ) ρ fun b μ1 => if b then (match step ρ μ1 with
    | .nx ρ1 μ1 => whileL test step n ρ1 μ1
    | .ct ρ1 μ1 => whileL test step n ρ1 μ1
    | .bk ρ1 μ1 => .nx ρ1 μ1
    | .rt d μ1 => .rt d μ1
    | .ex c ρ1 μ1 => .ex c ρ1 μ1
    | .bad => .bad) else .nx ρ μ1
def Out.walk (r : R Walk) (ρ : Env) (f : Walk → Mem → Out) : Out := match r with
  | .ok d μ => f d μ
  | .ex c μ => .ex c ρ μ
  | .bad => .bad
mutual
def exec (C : Ctx) : S → Env → Mem → Out
  | .expr e, ρ, μ => Out.of (evalE C e ρ μ) ρ fun _ μ1 => .nx ρ μ1
  | .asg t e, ρ, μ => Out.of (evalE C e ρ μ) ρ fun d μ1 => asgT C t d ρ μ1
  | .augn i op e, ρ, μ => match ρ[i]? with
    | some (some x) => Out.of (evalE C e ρ μ) ρ fun y μ1 => match x, y with
      | .int _, .int _ => Out.of (G.bin op x y μ1) ρ fun d μ2 => .nx (ρ.set i (some d)) μ2
      | _, _ => .bad
    | _ => .bad
  | .auga o f op e, ρ, μ => Out.of (evalE C o ρ μ) ρ fun a μ1 => Out.of (getF μ1 a f) ρ fun x μ2 => Out.of (evalE C e ρ μ2) ρ fun y μ3 => match x, y with
    | .int _, .int _ => Out.of (G.bin op x y μ3) ρ fun d μ4 => match setF μ4 a f d with
      | some μ5 => .nx ρ μ5
      | none => .bad
    | _, _ => .bad
  | .ret e, ρ, μ => Out.of (evalE C e ρ μ) ρ fun d μ1 => .rt d μ1
  | .retn, _, μ => .rt .non μ
  | .ite c a b, ρ, μ => Out.test (evalE C c ρ μ) ρ fun t μ1 => if t then execs C a ρ μ1 else execs C b ρ μ1
  | .whil c b, ρ, μ => whileL (evalE C c) (execs C b) C.w ρ μ
  | .for t i b, ρ, μ => Out.walk (walkI C i ρ μ) ρ fun w μ1 => forL w.keep (fun d ρ1 μ2 => match bindT t d ρ1 with
    | some ρ2 => execs C b ρ2 μ2
    | none => .bad) w.items ρ μ1
  | .brk, ρ, μ => .bk ρ μ
  | .cont, ρ, μ => .ct ρ μ
  | .pass, ρ, μ => .nx ρ μ
  | .raise c, ρ, μ => .ex c ρ μ
  | .tryx b c h, ρ, μ => match execs C b ρ μ with
    | .ex e ρ1 μ1 => if C.sub e c then execs C h ρ1 μ1 else .ex e ρ1 μ1
    | o => o
  | .del o i, ρ, μ => Out.of (evalE C o ρ μ) ρ fun x μ1 => Out.of (evalE C i ρ μ1) ρ fun y μ2 => match delKey x y μ2 with
    | some μ3 => .nx ρ μ3
    | none => .bad
def execs (C : Ctx) : Ss → Env → Mem → Out
  | .nil, ρ, μ => .nx ρ μ
  | .cons s r, ρ, μ => match exec C s ρ μ with
    | .nx ρ1 μ1 => execs C r ρ1 μ1
    | o => o
end
/-! ### calls -/
/-- what is fixed for a whole run -/
structure Prog where
  fns : String → Option Fn
  w : Nat
  rp : D → Tx
  sub : String → String → Bool
def runFn (C : Ctx) (F : Fn) (ds : List D) (μ : Mem) : R D :=
  if ds.length = F.params then (match execs C F.body (ds.map some ++ List.replicate (F.slots - ds.length) none) μ with
    | .nx _ μ1 => .ok .non μ1
    | .rt d μ1 => .ok d μ1
    | .ex c _ μ1 => .ex c μ1
    | _ => .bad) else .bad
/-- n calls deep, one in another -/
def run (P : Prog) (fr : Bool) : Nat → String → List D → Mem → R D
  | 0, _, _, _ => .bad
  | n + 1, f, ds, μ => match P.fns f with
    | some F => runFn ⟨run P fr n, P.w, P.rp, fr, P.sub⟩ F ds μ
    | none => .bad
end G
/-! The G machine over the hand layer: what relates its data and store to values and the abstract heap. -/
set_option Elab.async false
set_option linter.all false
set_option maxRecDepth 100000
namespace G
open PySem PySem.Spec L2
/-- a text of the machine as a text of the model -/
def cs (x : Tx) : PySem.Str := ⟨(x.map Char.toNat).toArray⟩
theorem charNat_inj {a b : Char} (h : a.toNat = b.toNat) : a = b := Char.ext (UInt32.toNat_inj.mp h)
theorem map_toNat_inj : ∀ {x y : Tx}, x.map Char.toNat = y.map Char.toNat → x = y
  | [], [], _ => rfl
  | [], _ :: _, h => by simp at h
  | _ :: _, [], h => by simp at h
  | a :: x, b :: y, h => by
    simp only [List.map_cons, List.cons.injEq] at h
    rw [charNat_inj h.1, map_toNat_inj h.2]
theorem cs_inj {x y : Tx} (h : cs x = cs y) : x = y := by
  have h1 : (x.map Char.toNat).toArray = (y.map Char.toNat).toArray := congrArg PySem.Str.cps h
  exact map_toNat_inj (by simpa using h1)
theorem cs_eq {x y : Tx} : cs x = cs y ↔ x = y := ⟨cs_inj, fun h => by rw [h]⟩
theorem cs_len (x : Tx) : (cs x).length = x.length := by simp [cs, PySem.Str.length]
theorem cs_cps (x : Tx) : (cs x).cps.toList = x.map Char.toNat := by simp [cs]
theorem ofString_cs (s : String) : PySem.Str.ofString s = cs s.toList := PySem.Str.ofString_eq_toList s
theorem ofString_inj {a b : String} (h : PySem.Str.ofString a = PySem.Str.ofString b) : a = b := by
  rw [ofString_cs, ofString_cs] at h
  exact String.toList_inj.mp (cs_inj h)
theorem cs_append (x y : Tx) : cs (x ++ y) = cs x ++ cs y := by
  show cs (x ++ y) = (⟨(cs x).cps ++ (cs y).cps⟩ : PySem.Str)
  simp [cs]
/-- where the store's cells stand; what is frozen -/
structure Mp where
  al : Nat → Option Addr
  fz : Hp
/-- a list that is read: tracked, frozen, or the module's own as it was laid -/
def SqX (K : PySem.W.Frag) (H : Hp) (a : Addr) (xs : List V) : Prop :=
  Rd H a (.lst xs) ∨ ∃ (its : Array Value) (n : Nat), K.lookup a = some { cls := .type "list", data := .seq its n } ∧ its.size ≤ sizeLine ∧ Vals xs its.toList
theorem SqX.l {K : PySem.W.Frag} {H : Hp} {a : Addr} {xs : List V} (h : SqX K H a xs) : SqL K H a xs := by
  rcases h with h | ⟨its, n, h1, h2, h3⟩
  · exact .inl h
  · exact .inr ⟨_, its, n, h1, rfl, rfl, rfl, h2, h3⟩
mutual
inductive Rp (K : PySem.W.Frag) (m : Mp) : V → D → Prop
  | non : Rp K m .non .non
  | bl (b : Bool) : Rp K m (.bl b) (.bl b)
  | int (i : Int) : Rp K m (.int i) (.int i)
  | str (x : Tx) : x.length ≤ line → Rp K m (.str (cs x)) (.str x)
  | tup {a : Addr} {xs : List V} {ds : List D} : SqT K m.fz a xs → Rps K m xs ds → Rp K m (.ref a) (.tup ds)
  | lst {a : Addr} {xs : List V} {ds : List D} : SqX K m.fz a xs → Rps K m xs ds → Rp K m (.ref a) (.lst ds)
  | ref {k : Nat} {a : Addr} : m.al k = some a → Rp K m (.ref a) (.ref k)
inductive Rps (K : PySem.W.Frag) (m : Mp) : List V → List D → Prop
  | nil : Rps K m [] []
  | cons {v : V} {vs : List V} {d : D} {ds : List D} : Rp K m v d → Rps K m vs ds → Rps K m (v :: vs) (d :: ds)
end
/-- one map within another -/
structure Le (m m' : Mp) : Prop where
  al : ∀ k a, m.al k = some a → m'.al k = some a
  fz : ∀ a o, m.fz a = some o → m'.fz a = some o
theorem Le.refl (m : Mp) : Le m m := ⟨fun _ _ h => h, fun _ _ h => h⟩
theorem Le.trans {a b c : Mp} (x : Le a b) (y : Le b c) : Le a c := ⟨fun k p h => y.al k p (x.al k p h), fun p o h => y.fz p o (x.fz p o h)⟩
theorem Le.rd {m m' : Mp} (l : Le m m') {a : Addr} {u : HO} (h : Rd m.fz a u) : Rd m'.fz a u := by
  rcases h with h | ⟨o, h⟩
  · exact .inl (l.fz _ _ h)
  · exact .inr ⟨o, l.fz _ _ h⟩
theorem Le.sqL {K : PySem.W.Frag} {m m' : Mp} (l : Le m m') {a : Addr} {xs : List V} (h : SqL K m.fz a xs) : SqL K m'.fz a xs := by
  rcases h with h | h
  · exact .inl (l.rd h)
  · exact .inr h
theorem Le.sqX {K : PySem.W.Frag} {m m' : Mp} (l : Le m m') {a : Addr} {xs : List V} (h : SqX K m.fz a xs) : SqX K m'.fz a xs := by
  rcases h with h | h
  · exact .inl (l.rd h)
  · exact .inr h
theorem Le.sqT {K : PySem.W.Frag} {m m' : Mp} (l : Le m m') {a : Addr} {xs : List V} (h : SqT K m.fz a xs) : SqT K m'.fz a xs := by
  rcases h with h | h
  · exact .inl (l.rd h)
  · exact .inr h
mutual
theorem Rp.le {K : PySem.W.Frag} {m m' : Mp} (l : Le m m') : ∀ {v : V} (d : D), Rp K m v d → Rp K m' v d
  | _, .non, h => by cases h; exact .non
  | _, .bl b, h => by cases h; exact .bl b
  | _, .int i, h => by cases h; exact .int i
  | _, .str x, h => by cases h with | str _ hx => exact .str x hx
  | _, .tup ds, h => by cases h with | tup h1 h2 => exact .tup (l.sqT h1) (Rps.le l ds h2)
  | _, .lst ds, h => by cases h with | lst h1 h2 => exact .lst (l.sqX h1) (Rps.le l ds h2)
  | _, .ref k, h => by cases h with | ref h1 => exact .ref (l.al _ _ h1)
theorem Rps.le {K : PySem.W.Frag} {m m' : Mp} (l : Le m m') : ∀ {vs : List V} (ds : List D), Rps K m vs ds → Rps K m' vs ds
  | _, [], h => by cases h; exact .nil
  | _, d :: ds, h => by cases h with | cons h1 h2 => exact .cons (Rp.le l d h1) (Rps.le l ds h2)
end
theorem Rp.mono {K : PySem.W.Frag} {m m' : Mp} {v : V} {d : D} (h : Rp K m v d) (l : Le m m') : Rp K m' v d := Rp.le l d h
theorem Rps.mono {K : PySem.W.Frag} {m m' : Mp} {vs : List V} {ds : List D} (h : Rps K m vs ds) (l : Le m m') : Rps K m' vs ds := Rps.le l ds h
section
variable {K : PySem.W.Frag} {m m' : Mp}
theorem Rps.len : ∀ {vs : List V} {ds : List D}, Rps K m vs ds → vs.length = ds.length
  | _, _, .nil => rfl
  | _, _, .cons _ t => congrArg Nat.succ (Rps.len t)
theorem Rps.app : ∀ {vs ws : List V} {ds es : List D}, Rps K m vs ds → Rps K m ws es → Rps K m (vs ++ ws) (ds ++ es)
  | _, _, _, _, .nil, s => s
  | _, _, _, _, .cons r t, s => .cons r (Rps.app t s)
theorem Rps.take : ∀ {vs : List V} {ds : List D} (n : Nat), Rps K m vs ds → Rps K m (vs.take n) (ds.take n)
  | _, _, 0, _ => .nil
  | _, _, _ + 1, .nil => .nil
  | _, _, n + 1, .cons r t => .cons r (Rps.take n t)
theorem Rps.drop : ∀ {vs : List V} {ds : List D} (n : Nat), Rps K m vs ds → Rps K m (vs.drop n) (ds.drop n)
  | _, _, 0, r => r
  | _, _, _ + 1, .nil => .nil
  | _, _, n + 1, .cons _ t => Rps.drop n t
theorem Rps.get : ∀ {vs : List V} {ds : List D} {i : Nat} {d : D}, Rps K m vs ds → ds[i]? = some d → ∃ v, vs[i]? = some v ∧ Rp K m v d
  | _, _, _, _, .nil, e => by simp at e
  | _, _, 0, _, .cons r _, e => by simp at e; subst e; exact ⟨_, rfl, r⟩
  | _, _, i + 1, d, .cons _ t, e => by
    obtain ⟨v, h1, h2⟩ := Rps.get (i := i) (d := d) t (by simpa using e)
    exact ⟨v, by simpa using h1, h2⟩
theorem Rps.getV : ∀ {vs : List V} {ds : List D} {i : Nat} {v : V}, Rps K m vs ds → vs[i]? = some v → ∃ d, ds[i]? = some d ∧ Rp K m v d
  | _, _, _, _, .nil, e => by simp at e
  | _, _, 0, _, .cons r _, e => by simp at e; subst e; exact ⟨_, rfl, r⟩
  | _, _, i + 1, d, .cons _ t, e => by
    obtain ⟨v, h1, h2⟩ := Rps.getV (i := i) (v := d) t (by simpa using e)
    exact ⟨v, by simpa using h1, h2⟩
theorem Rps.set : ∀ {vs : List V} {ds : List D} (i : Nat) {v : V} {d : D}, Rps K m vs ds → Rp K m v d → Rps K m (vs.set i v) (ds.set i d)
  | _, _, _, _, _, .nil, _ => .nil
  | _, _, 0, _, _, .cons _ t, r => .cons r t
  | _, _, i + 1, _, _, .cons q t, r => .cons q (Rps.set i t r)
theorem Rps.rev {vs : List V} {ds : List D} (h : Rps K m vs ds) : Rps K m vs.reverse ds.reverse := by
  induction h using Rps.rec (motive_1 := fun _ _ _ => True) with
  | nil => exact .nil
  | cons r t _ ih =>
    rw [List.reverse_cons, List.reverse_cons]
    exact ih.app (.cons r .nil)
  | _ => trivial
theorem Rps.dropLast {vs : List V} {ds : List D} (h : Rps K m vs ds) : Rps K m vs.dropLast ds.dropLast := by
  rw [List.dropLast_eq_take, List.dropLast_eq_take, h.len]
  exact h.take _
theorem Rps.erase : ∀ {vs : List V} {ds : List D} (i : Nat), Rps K m vs ds → Rps K m (vs.eraseIdx i) (ds.eraseIdx i)
  | _, _, _, .nil => .nil
  | _, _, 0, .cons _ t => t
  | _, _, i + 1, .cons q t => .cons q (Rps.erase i t)
theorem Rps.ints : ∀ {vs : List V} {ds : List D} {ns : List Int}, Rps K m vs ds → intsOf ds = some ns → vs = ns.map V.int ∧ ds = ns.map D.int
  | _, _, _, .nil, e => by
    simp only [intsOf, Option.some.injEq] at e
    subst e
    exact ⟨rfl, rfl⟩
  | _, d :: ds, ns, .cons r t, e => by
    cases d with
    | int i =>
      cases r
      simp only [intsOf, Option.map_eq_some_iff] at e
      obtain ⟨ms, h1, rfl⟩ := e
      obtain ⟨e1, e2⟩ := Rps.ints t h1
      rw [e1, e2]
      exact ⟨rfl, rfl⟩
    | _ => simp [intsOf] at e
theorem Rps.ofInts : ∀ ns : List Int, Rps K m (ns.map V.int) (ns.map D.int)
  | [] => .nil
  | n :: ns => .cons (.int n) (Rps.ofInts ns)
theorem Rps.bools : ∀ {vs : List V} {ds : List D} {ns : List Bool}, Rps K m vs ds → boolsOf ds = some ns → vs = ns.map V.bl
  | _, _, _, .nil, e => by
    simp only [boolsOf, Option.some.injEq] at e
    subst e
    rfl
  | _, d :: ds, ns, .cons r t, e => by
    cases d with
    | bl i =>
      cases r
      simp only [boolsOf, Option.map_eq_some_iff] at e
      obtain ⟨ms, h1, rfl⟩ := e
      rw [Rps.bools t h1]
      rfl
    | _ => simp [boolsOf] at e
theorem Rps.texts : ∀ {vs : List V} {ds : List D} {ns : List Tx}, Rps K m vs ds → textsOf ds = some ns → vs = ns.map fun x => V.str (cs x)
  | _, _, _, .nil, e => by
    simp only [textsOf, Option.some.injEq] at e
    subst e
    rfl
  | _, d :: ds, ns, .cons r t, e => by
    cases d with
    | str i =>
      cases r
      simp only [textsOf, Option.map_eq_some_iff] at e
      obtain ⟨ms, h1, rfl⟩ := e
      rw [Rps.texts t h1]
      rfl
    | _ => simp [textsOf] at e
theorem Rps.ofTexts : ∀ ns : List Tx, (∀ x ∈ ns, x.length ≤ line) → Rps K m (ns.map fun x => V.str (cs x)) (ns.map D.str)
  | [], _ => .nil
  | n :: ns, h => .cons (.str n (h n List.mem_cons_self)) (Rps.ofTexts ns fun x hx => h x (List.mem_cons_of_mem _ hx))
end
/-! ### the store -/
def kk : Key → L2.Key
  | .inl i => .inl i
  | .inr x => .inr (cs x)
theorem kk_inj {a b : Key} (h : kk a = kk b) : a = b := by
  cases a with
  | inl i => cases b with
    | inl j => injection h with h; rw [h]
    | inr y => cases h
  | inr x => cases b with
    | inl j => cases h
    | inr y => injection h with h; rw [cs_inj h]
theorem kk_eq {a b : Key} : kk a = kk b ↔ a = b := ⟨kk_inj, fun h => by rw [h]⟩
/-- a key's text fits -/
def keyB : Key → Prop
  | .inl _ => True
  | .inr x => x.length ≤ line
abbrev KRp (K : PySem.W.Frag) (m : Mp) : List (L2.Key × V) → List (Key × D) → Prop := Paired fun p q => p.1 = kk q.1 ∧ keyB q.1 ∧ Rp K m p.2 q.2
abbrev FRp (K : PySem.W.Frag) (m : Mp) : List (PySem.Str × V) → List (String × D) → Prop := Paired fun p q => p.1 = PySem.Str.ofString q.1 ∧ Rp K m p.2 q.2
/-- the class's address -/
def clM (mg : PySem.Str → Option Value) (c : String) : Option Addr := match mg (PySem.Str.ofString c) with
  | some (.ref C) => some C
  | _ => none
abbrev cl (X : Cx) (c : String) : Option Addr := clM X.mg c
def CellG (K : PySem.W.Frag) (mg : PySem.Str → Option Value) (m : Mp) (H : Hp) (a : Addr) : Cell → Prop
  | .lst ds => ∃ xs, H a = some (.lst xs) ∧ m.fz a = none ∧ Rps K m xs ds
  | .fz ds => ∃ xs, m.fz a = some (.lst xs) ∧ Rps K m xs ds
  | .dict kvs => ∃ ys, H a = some (.dK ys) ∧ m.fz a = none ∧ KRp K m ys kvs
  | .obj c fs => ∃ C dx ys, clM mg c = some C ∧ H a = some (.ins C dx ys) ∧ m.fz a = none ∧ FRp K m ys fs
abbrev CellOk (X : Cx) (m : Mp) (H : Hp) (a : Addr) (c : Cell) : Prop := CellG X.K X.mg m H a c
structure RelG (K : PySem.W.Frag) (mg : PySem.Str → Option Value) (m : Mp) (H : Hp) (μ : Mem) : Prop where
  fzH : ∀ a o, m.fz a = some o → H a = some o
  cell : ∀ k c, μ[k]? = some c → ∃ a, m.al k = some a ∧ CellG K mg m H a c
  inj : ∀ j k a, m.al j = some a → m.al k = some a → j = k
  top : ∀ k a, m.al k = some a → k < μ.length
abbrev RelM (X : Cx) (m : Mp) (H : Hp) (μ : Mem) : Prop := RelG X.K X.mg m H μ
/-- what came behind -/
structure Ext (m : Mp) (H : Hp) (m' : Mp) (H' : Hp) : Prop where
  le : Le m m'
  alN : ∀ k a, m'.al k = some a → m.al k = some a ∨ H a = none
  fzN : ∀ a o, m'.fz a = some o → m.fz a = some o ∨ H a = none ∨ ∃ k, m.al k = some a
  keep : ∀ a o, H a = some o → (∀ k, m.al k ≠ some a) → H' a = some o
  dom : ∀ a, H a ≠ none → H' a ≠ none
theorem Ext.refl (m : Mp) (H : Hp) : Ext m H m H := ⟨Le.refl m, fun _ _ h => .inl h, fun _ _ h => .inl h, fun _ _ h _ => h, fun _ h => h⟩
theorem Ext.trans {m m1 m2 : Mp} {H H1 H2 : Hp} (x : Ext m H m1 H1) (y : Ext m1 H1 m2 H2) : Ext m H m2 H2 := by
  have nn : ∀ {a : Addr}, H1 a = none → H a = none := fun {a} h => by
    cases e : H a with
    | none => rfl
    | some o => exact absurd h (x.dom a (by rw [e]; intro q; cases q))
  refine ⟨x.le.trans y.le, fun k a h => ?_, fun a o h => ?_, fun a o h hn => ?_, fun a h => y.dom a (x.dom a h)⟩
  · rcases y.alN k a h with h | h
    · exact x.alN k a h
    · exact .inr (nn h)
  · rcases y.fzN a o h with h | h | ⟨k, h⟩
    · exact x.fzN a o h
    · exact .inr (.inl (nn h))
    · rcases x.alN k a h with h | h
      · exact .inr (.inr ⟨k, h⟩)
      · exact .inr (.inl h)
  · refine y.keep a o (x.keep a o h hn) fun k hk => ?_
    rcases x.alN k a hk with q | q
    · exact hn k q
    · rw [q] at h; cases h
theorem Paired.imp {α β : Type} {F Q : α → β → Prop} : ∀ {l₁ : List α} {l₂ : List β}, Paired F l₁ l₂ → (∀ a b, F a b → Q a b) → Paired Q l₁ l₂
  | _, _, .nil, _ => .nil
  | _, _, .cons r t, f => .cons (f _ _ r) (Paired.imp t f)
section
variable {X : Cx} {m m' : Mp} {H H' : Hp} {μ : Mem} {a : Addr}
theorem CellG.le (l : Le m m') (hf : m.fz a = none → m'.fz a = none) : ∀ {c : Cell}, CellOk X m H a c → H' a = H a → CellOk X m' H' a c
  | .lst ds, ⟨xs, h1, h2, h3⟩, e => ⟨xs, e.trans h1, hf h2, h3.mono l⟩
  | .fz ds, ⟨xs, h1, h3⟩, e => ⟨xs, l.fz _ _ h1, h3.mono l⟩
  | .dict kvs, ⟨ys, h1, h2, h3⟩, e => ⟨ys, e.trans h1, hf h2, Paired.imp h3 fun _ _ q => ⟨q.1, q.2.1, q.2.2.mono l⟩⟩
  | .obj c fs, ⟨C, dx, ys, h0, h1, h2, h3⟩, e => ⟨C, dx, ys, h0, e.trans h1, hf h2, Paired.imp h3 fun _ _ q => ⟨q.1, q.2.mono l⟩⟩
theorem CellG.here (rel : RelM X m H μ) : ∀ {c : Cell}, CellOk X m H a c → ∃ o, H a = some o
  | .lst ds, ⟨xs, h1, _, _⟩ => ⟨_, h1⟩
  | .fz ds, ⟨xs, h1, _⟩ => ⟨_, rel.fzH _ _ h1⟩
  | .dict kvs, ⟨ys, h1, _, _⟩ => ⟨_, h1⟩
  | .obj c fs, ⟨C, dx, ys, _, h1, _, _⟩ => ⟨_, h1⟩
theorem RelG.al_here (rel : RelM X m H μ) {k : Nat} (h : m.al k = some a) : ∃ o, H a = some o := by
  have hk := rel.top k a h
  obtain ⟨b, hb, c⟩ := rel.cell k μ[k] (List.getElem?_eq_getElem hk)
  rw [h] at hb
  cases hb
  exact c.here rel
/-- a new cell at p -/
def Mp.add (m : Mp) (k : Nat) (p : Addr) : Mp := ⟨fun j => if j = k then some p else m.al j, m.fz⟩
/-- p frozen -/
def Mp.frz (m : Mp) (p : Addr) (o : HO) : Mp := ⟨m.al, upd m.fz p o⟩
theorem RelG.new {p : Addr} {o : HO} {c : Cell} (rel : RelM X m H μ) (hp : H p = none) (hc : CellOk X (m.add μ.length p) (upd H p o) p c) : RelM X (m.add μ.length p) (upd H p o) (μ ++ [c]) ∧ Ext m H (m.add μ.length p) (upd H p o) := by
  have l : Le m (m.add μ.length p) := ⟨fun k b h => by
    have := rel.top k b h
    show (if k = μ.length then some p else m.al k) = some b
    rw [if_neg (by omega)]
    exact h, fun _ _ h => h⟩
  have ne : ∀ {b : Addr} {q : HO}, H b = some q → b ≠ p := fun h => ne_of_none h hp
  refine ⟨⟨fun b q h => ?_, fun k q h => ?_, fun j k b h1 h2 => ?_, fun k b h => ?_⟩, ⟨l, fun k b h => ?_, fun b q h => .inl h, fun b q h _ => ?_, fun b h => ?_⟩⟩
  · have e := rel.fzH b q h
    rw [upd_ne (ne e)]
    exact e
  · by_cases hk : k < μ.length
    · rw [List.getElem?_append_left hk] at h
      obtain ⟨b, hb, cc⟩ := rel.cell k q h
      obtain ⟨ob, eb⟩ := cc.here rel
      exact ⟨b, l.al _ _ hb, cc.le l (fun z => z) (upd_ne (ne eb))⟩
    · have hk2 : k = μ.length := by
        have := (List.getElem?_eq_some_iff.mp h).1
        simp only [List.length_append, List.length_cons, List.length_nil] at this
        omega
      subst hk2
      rw [List.getElem?_append_right (Nat.le_refl _)] at h
      simp at h
      subst h
      exact ⟨p, if_pos rfl, hc⟩
  · have h1 : (if j = μ.length then some p else m.al j) = some b := h1
    have h2 : (if k = μ.length then some p else m.al k) = some b := h2
    by_cases e1 : j = μ.length
    · rw [if_pos e1] at h1
      cases h1
      by_cases e2 : k = μ.length
      · omega
      · rw [if_neg e2] at h2
        obtain ⟨o, eo⟩ := rel.al_here h2
        rw [hp] at eo; cases eo
    · rw [if_neg e1] at h1
      by_cases e2 : k = μ.length
      · rw [if_pos e2] at h2
        cases h2
        obtain ⟨o, eo⟩ := rel.al_here h1
        rw [hp] at eo; cases eo
      · rw [if_neg e2] at h2
        exact rel.inj j k b h1 h2
  · have h : (if k = μ.length then some p else m.al k) = some b := h
    rw [List.length_append]
    by_cases e1 : k = μ.length
    · rw [e1]; simp
    · rw [if_neg e1] at h
      have := rel.top k b h
      simp only [List.length_cons, List.length_nil]
      omega
  · have h : (if k = μ.length then some p else m.al k) = some b := h
    by_cases e1 : k = μ.length
    · rw [if_pos e1] at h
      cases h
      exact .inr hp
    · rw [if_neg e1] at h
      exact .inl h
  · rw [upd_ne (ne h)]
    exact h
  · by_cases e : b = p
    · rw [e, upd_same]; intro q; cases q
    · rw [upd_ne e]; exact h
/-- a new frozen object -/
theorem RelG.newF {p : Addr} {o : HO} (rel : RelM X m H μ) (hp : H p = none) : RelM X (m.frz p o) (upd H p o) μ ∧ Ext m H (m.frz p o) (upd H p o) ∧ m.fz p = none := by
  have hf : m.fz p = none := by
    cases e : m.fz p with
    | none => rfl
    | some q => rw [rel.fzH _ _ e] at hp; cases hp
  have ne : ∀ {b : Addr} {q : HO}, H b = some q → b ≠ p := fun h => ne_of_none h hp
  have l : Le m (m.frz p o) := ⟨fun _ _ h => h, fun b q h => by
    show upd m.fz p o b = some q
    rw [upd_ne (ne (rel.fzH _ _ h))]
    exact h⟩
  refine ⟨⟨fun b q h => ?_, fun k q h => ?_, rel.inj, rel.top⟩, ⟨l, fun _ _ h => .inl h, fun b q h => ?_, fun b q h _ => by rw [upd_ne (ne h)]; exact h, fun b h => ?_⟩, hf⟩
  · have h : upd m.fz p o b = some q := h
    by_cases e : b = p
    · subst e
      rw [upd_same] at h ⊢
      exact h
    · rw [upd_ne e] at h ⊢
      exact rel.fzH b q h
  · obtain ⟨b, hb, cc⟩ := rel.cell k q h
    obtain ⟨ob, eb⟩ := cc.here rel
    refine ⟨b, hb, cc.le l (fun z => ?_) (upd_ne (ne eb))⟩
    show upd m.fz p o b = none
    rw [upd_ne (ne eb)]
    exact z
  · have h : upd m.fz p o b = some q := h
    by_cases e : b = p
    · subst e
      exact .inr (.inl hp)
    · rw [upd_ne e] at h
      exact .inl h
  · by_cases e : b = p
    · rw [e, upd_same]; intro q; cases q
    · rw [upd_ne e]; exact h
/-- a cell written -/
theorem RelG.wr {k : Nat} {o : HO} {c : Cell} (rel : RelM X m H μ) (hk : m.al k = some a) (hf : m.fz a = none) (hc : CellOk X m (upd H a o) a c) : RelM X m (upd H a o) (μ.set k c) ∧ Ext m H m (upd H a o) := by
  refine ⟨⟨fun b q h => ?_, fun j q h => ?_, rel.inj, fun j b h => ?_⟩, ⟨Le.refl m, fun _ _ h => .inl h, fun _ _ h => .inl h, fun b q h hn => ?_, fun b h => ?_⟩⟩
  · have ne : b ≠ a := fun e => by rw [e, hf] at h; cases h
    rw [upd_ne ne]
    exact rel.fzH b q h
  · by_cases e : j = k
    · subst e
      have hlt := rel.top j a hk
      rw [List.getElem?_set_self hlt] at h
      cases h
      exact ⟨a, hk, hc⟩
    · rw [List.getElem?_set_ne (Ne.symm e)] at h
      obtain ⟨b, hb, cc⟩ := rel.cell j q h
      have ne : b ≠ a := fun z => e (rel.inj j k a (by rw [← z]; exact hb) hk)
      exact ⟨b, hb, cc.le (Le.refl m) (fun z => z) (upd_ne ne)⟩
  · rw [List.length_set]
    exact rel.top j b h
  · have ne : b ≠ a := fun e => hn k (by rw [e]; exact hk)
    rw [upd_ne ne]
    exact h
  · by_cases e : b = a
    · rw [e, upd_same]; intro q; cases q
    · rw [upd_ne e]; exact h
/-- a cell frozen -/
theorem RelG.fzc {k : Nat} {xs : List V} {ds : List D} (rel : RelM X m H μ) (hk : m.al k = some a) (ha : H a = some (.lst xs)) (hf : m.fz a = none) (r : Rps X.K m xs ds) : RelM X (m.frz a (.lst xs)) H (μ.set k (.fz ds)) ∧ Ext m H (m.frz a (.lst xs)) H := by
  have l : Le m (m.frz a (.lst xs)) := ⟨fun _ _ h => h, fun b q h => by
    show upd m.fz a (.lst xs) b = some q
    rw [upd_ne (fun e => by rw [e, hf] at h; cases h)]
    exact h⟩
  refine ⟨⟨fun b q h => ?_, fun j q h => ?_, rel.inj, fun j b h => ?_⟩, ⟨l, fun _ _ h => .inl h, fun b q h => ?_, fun b q h _ => h, fun b h => h⟩⟩
  · have h : upd m.fz a (.lst xs) b = some q := h
    by_cases e : b = a
    · subst e
      rw [upd_same] at h
      rw [ha]
      exact h
    · rw [upd_ne e] at h
      exact rel.fzH b q h
  · by_cases e : j = k
    · subst e
      have hlt := rel.top j a hk
      rw [List.getElem?_set_self hlt] at h
      cases h
      exact ⟨a, hk, xs, upd_same, r.mono l⟩
    · rw [List.getElem?_set_ne (Ne.symm e)] at h
      obtain ⟨b, hb, cc⟩ := rel.cell j q h
      have ne : b ≠ a := fun z => e (rel.inj j k a (by rw [← z]; exact hb) hk)
      refine ⟨b, hb, cc.le l (fun z => ?_) rfl⟩
      show upd m.fz a (.lst xs) b = none
      rw [upd_ne ne]
      exact z
  · rw [List.length_set]
    exact rel.top j b h
  · have h : upd m.fz a (.lst xs) b = some q := h
    by_cases e : b = a
    · subst e
      exact .inr (.inr ⟨k, hk⟩)
    · rw [upd_ne e] at h
      exact .inl h
/-- a cell read -/
theorem RelG.at_ (rel : RelM X m H μ) {k : Nat} {v : V} {c : Cell} (r : Rp X.K m v (.ref k)) (h : μ[k]? = some c) : ∃ a, v = .ref a ∧ m.al k = some a ∧ CellOk X m H a c := by
  cases r with
  | ref hk =>
    obtain ⟨b, hb, cc⟩ := rel.cell k c h
    rw [hk] at hb
    cases hb
    exact ⟨_, rfl, hk, cc⟩
theorem rd_fz (rel : RelM X m H μ) {u : HO} (h : Rd m.fz a u) : Rd H a u := by
  rcases h with h | ⟨o, h⟩
  · exact .inl (rel.fzH _ _ h)
  · exact .inr ⟨o, rel.fzH _ _ h⟩
theorem RelG.sqL (rel : RelM X m H μ) {K : PySem.W.Frag} {xs : List V} (h : SqL K m.fz a xs) : SqL K H a xs := by
  rcases h with h | h
  · exact .inl (rd_fz rel h)
  · exact .inr h
theorem RelG.sqX (rel : RelM X m H μ) {K : PySem.W.Frag} {xs : List V} (h : SqX K m.fz a xs) : SqX K H a xs := by
  rcases h with h | h
  · exact .inl (rd_fz rel h)
  · exact .inr h
theorem RelG.sqT (rel : RelM X m H μ) {K : PySem.W.Frag} {xs : List V} (h : SqT K m.fz a xs) : SqT K H a xs := by
  rcases h with h | h
  · exact .inl (rd_fz rel h)
  · exact .inr h
/-- a list's items -/
theorem RelG.getL (rel : RelM X m H μ) {v : V} {d : D} {ds : List D} (r : Rp X.K m v d) (h : getL μ d = some ds) : ∃ a xs, v = .ref a ∧ SqX X.K H a xs ∧ Rps X.K m xs ds := by
  cases d with
  | lst es =>
    simp only [G.getL, Option.some.injEq] at h
    subst h
    cases r with
    | lst h1 h2 => exact ⟨_, _, rfl, rel.sqX h1, h2⟩
  | ref k =>
    simp only [G.getL] at h
    cases e : μ[k]? with
    | none => rw [e] at h; cases h
    | some c =>
      obtain ⟨a, rfl, hk, cc⟩ := rel.at_ r e
      rw [e] at h
      cases c with
      | lst es =>
        simp only [Option.some.injEq] at h
        subst h
        obtain ⟨xs, h1, _, h3⟩ := cc
        exact ⟨a, xs, rfl, .inl (.inl h1), h3⟩
      | fz es =>
        simp only [Option.some.injEq] at h
        subst h
        obtain ⟨xs, h1, h3⟩ := cc
        exact ⟨a, xs, rfl, .inl (.inl (rel.fzH _ _ h1)), h3⟩
      | dict _ => cases h
      | obj _ _ => cases h
  | _ => simp [G.getL] at h
theorem RelG.getT (rel : RelM X m H μ) {v : V} {ds : List D} (r : Rp X.K m v (.tup ds)) : ∃ a xs, v = .ref a ∧ SqT X.K H a xs ∧ Rps X.K m xs ds := by
  cases r with
  | tup h1 h2 => exact ⟨_, _, rfl, rel.sqT h1, h2⟩
theorem RelG.getS (rel : RelM X m H μ) {v : V} {d : D} {ds : List D} (r : Rp X.K m v d) (h : getS μ d = some ds) : ∃ a xs, v = .ref a ∧ (SqL X.K H a xs ∨ SqT X.K H a xs) ∧ Rps X.K m xs ds := by
  cases d with
  | tup es =>
    simp only [G.getS, Option.some.injEq] at h
    subst h
    obtain ⟨a, xs, e, h1, h2⟩ := rel.getT r
    exact ⟨a, xs, e, .inr h1, h2⟩
  | lst es =>
    obtain ⟨a, xs, e, h1, h2⟩ := rel.getL r h
    exact ⟨a, xs, e, .inl h1.l, h2⟩
  | ref k =>
    obtain ⟨a, xs, e, h1, h2⟩ := rel.getL r h
    exact ⟨a, xs, e, .inl h1.l, h2⟩
  | _ => simp [G.getS, G.getL] at h
/-- one datum frozen -/
theorem RelG.frz1 (rel : RelM X m H μ) {v : V} {d : D} (r : Rp X.K m v d) : ∃ m', RelM X m' H (frz1 d μ).2 ∧ Ext m H m' H ∧ Rp X.K m' v (frz1 d μ).1 := by
  have same : ∀ {e : D × Mem}, e = (d, μ) → ∃ m', RelM X m' H e.2 ∧ Ext m H m' H ∧ Rp X.K m' v e.1 := fun h => by
    subst h
    exact ⟨m, rel, Ext.refl m H, r⟩
  cases d with
  | ref k =>
    cases e : μ[k]? with
    | none => exact same (by simp only [G.frz1, e])
    | some c =>
      obtain ⟨a, rfl, hk, cc⟩ := rel.at_ r e
      cases c with
      | lst es =>
        obtain ⟨xs, h1, h2, h3⟩ := cc
        obtain ⟨q1, q2⟩ := rel.fzc hk h1 h2 h3
        simp only [G.frz1, e]
        exact ⟨_, q1, q2, .lst (.inl (.inl upd_same)) (h3.mono q2.le)⟩
      | fz es =>
        obtain ⟨xs, h1, h3⟩ := cc
        simp only [G.frz1, e]
        exact ⟨m, rel, Ext.refl m H, .lst (.inl (.inl h1)) h3⟩
      | dict _ => exact same (by simp only [G.frz1, e])
      | obj _ _ => exact same (by simp only [G.frz1, e])
  | _ => exact same rfl
theorem RelG.frz : ∀ {ds : List D} {m : Mp} {μ : Mem} {vs : List V}, RelM X m H μ → Rps X.K m vs ds → ∃ m', RelM X m' H (frz ds μ).2 ∧ Ext m H m' H ∧ Rps X.K m' vs (frz ds μ).1
  | [], m, μ, _, rel, r => by
    cases r
    exact ⟨m, rel, Ext.refl m H, .nil⟩
  | d :: ds, m, μ, _, rel, r => by
    cases r with
    | cons r1 r2 =>
      obtain ⟨m1, rel1, x1, q1⟩ := rel.frz1 r1
      obtain ⟨m2, rel2, x2, q2⟩ := RelG.frz rel1 (r2.mono x1.le)
      exact ⟨m2, rel2, x1.trans x2, .cons (q1.mono x2.le) q2⟩
theorem RelG.frzIf {b : Bool} {ds : List D} {vs : List V} (rel : RelM X m H μ) (r : Rps X.K m vs ds) : ∃ m', RelM X m' H (frzIf b ds μ).2 ∧ Ext m H m' H ∧ Rps X.K m' vs (frzIf b ds μ).1 := by
  cases b with
  | false => exact ⟨m, rel, Ext.refl m H, r⟩
  | true => exact rel.frz r
end
end G
/-! The G machine over the hand layer: expressions' judgement, operators. -/
set_option Elab.async false
set_option linter.all false
set_option maxRecDepth 100000
namespace G
open PySem PySem.Spec L2
section
variable {X : Cx}
/-- behind a computation of the machine: k of the datum, the store, the map, the heap; Xc of an exception -/
def PostG {α : Type} (K : PySem.W.Frag) (mg : PySem.Str → Option Value) (Xc : String → Mem → Mp → Hp → Prop) (m : Mp) (H : Hp) (r : R α) (k : α → Mem → Mp → Hp → Prop) : Prop := match r with
  | .ok a μ => ∀ m' H', Ext m H m' H' → RelG K mg m' H' μ → k a μ m' H'
  | .ex c μ => ∀ m' H', Ext m H m' H' → RelG K mg m' H' μ → Xc c μ m' H'
  | .bad => False
abbrev Post {α : Type} (X : Cx) (Xc : String → Mem → Mp → Hp → Prop) (m : Mp) (H : Hp) (r : R α) (k : α → Mem → Mp → Hp → Prop) : Prop := PostG X.K X.mg Xc m H r k
theorem PostG.bind {α β : Type} {Xc : String → Mem → Mp → Hp → Prop} {m : Mp} {H : Hp} {r : R α} {f : α → Mem → R β} {k : β → Mem → Mp → Hp → Prop} (h : Post X Xc m H (r.bind f) k) :
    Post X Xc m H r fun a μ m1 H1 => Post X Xc m1 H1 (f a μ) k := by
  cases r with
  | bad => exact h
  | ex c μ => exact h
  | ok a μ =>
    intro m1 H1 x1 r1
    have h : Post X Xc m H (f a μ) k := h
    show Post X Xc m1 H1 (f a μ) k
    cases e : f a μ with
    | bad => rw [e] at h; exact h
    | ex c μ2 => rw [e] at h; exact fun m2 H2 x2 r2 => h m2 H2 (x1.trans x2) r2
    | ok b μ2 => rw [e] at h; exact fun m2 H2 x2 r2 => h m2 H2 (x1.trans x2) r2
theorem PostG.imp {α : Type} {Xc : String → Mem → Mp → Hp → Prop} {m : Mp} {H : Hp} {r : R α} {k k' : α → Mem → Mp → Hp → Prop} (h : Post X Xc m H r k) (i : ∀ a μ m' H', Ext m H m' H' → RelM X m' H' μ → k a μ m' H' → k' a μ m' H') :
    Post X Xc m H r k' := by
  cases r with
  | bad => exact h
  | ex c μ => exact h
  | ok a μ => exact fun m1 H1 x1 r1 => i a μ m1 H1 x1 r1 (h m1 H1 x1 r1)
/-- from further on -/
theorem PostG.on {α : Type} {Xc : String → Mem → Mp → Hp → Prop} {m m1 : Mp} {H H1 : Hp} {r : R α} {k : α → Mem → Mp → Hp → Prop} (h : Post X Xc m H r k) (x1 : Ext m H m1 H1) : Post X Xc m1 H1 r k := by
  cases r with
  | bad => exact h
  | ex c μ2 => exact fun m2 H2 x2 r2 => h m2 H2 (x1.trans x2) r2
  | ok b μ2 => exact fun m2 H2 x2 r2 => h m2 H2 (x1.trans x2) r2
/-- the slots -/
def Loc (X : Cx) (m : Mp) (σ : St) (ρ : Env) : Prop := σ.length = ρ.length ∧ ∀ (i : Nat) (d : D), ρ[i]? = some (some d) → ∃ v, σ[i]? = some (some v) ∧ Rp X.K m v d
theorem Loc.mono {m m' : Mp} {σ : St} {ρ : Env} (h : Loc X m σ ρ) (l : Le m m') : Loc X m' σ ρ := ⟨h.1, fun i d e => let ⟨v, e1, r⟩ := h.2 i d e; ⟨v, e1, r.mono l⟩⟩
theorem Loc.set {m : Mp} {σ : St} {ρ : Env} {v : V} {d : D} (h : Loc X m σ ρ) (r : Rp X.K m v d) (i : Nat) : Loc X m (σ.set i (some v)) (ρ.set i (some d)) := by
  refine ⟨by rw [List.length_set, List.length_set]; exact h.1, fun j e he => ?_⟩
  by_cases hj : j = i
  · subst hj
    have hlt : j < ρ.length := by
      have := (List.getElem?_eq_some_iff.mp he).1
      rwa [List.length_set] at this
    rw [List.getElem?_set_self hlt] at he
    cases he
    exact ⟨v, List.getElem?_set_self (by rw [h.1]; exact hlt), r⟩
  · rw [List.getElem?_set_ne (Ne.symm hj)] at he
    obtain ⟨w, e1, q⟩ := h.2 j e he
    exact ⟨w, by rw [List.getElem?_set_ne (Ne.symm hj)]; exact e1, q⟩
theorem Loc.none {m : Mp} {σ : St} {ρ : Env} (h : Loc X m σ ρ) (i : Nat) : Loc X m (σ.set i none) (ρ.set i none) := by
  refine ⟨by rw [List.length_set, List.length_set]; exact h.1, fun j e he => ?_⟩
  by_cases hj : j = i
  · subst hj
    have hlt : j < ρ.length := by
      have := (List.getElem?_eq_some_iff.mp he).1
      rwa [List.length_set] at this
    rw [List.getElem?_set_self hlt] at he
    cases he
  · rw [List.getElem?_set_ne (Ne.symm hj)] at he
    obtain ⟨w, e1, q⟩ := h.2 j e he
    exact ⟨w, by rw [List.getElem?_set_ne (Ne.symm hj)]; exact e1, q⟩
theorem Loc.wipe {m : Mp} {σ : St} {ρ : Env} (h : Loc X m σ ρ) : ∀ is : List Nat, Loc X m (wipe σ is) (wipeE ρ is)
  | [] => h
  | i :: is => (Loc.wipe h is).none i
/-- the built-in names that a text uses are the built-in ones -/
structure Lib (mg : PySem.Str → Option Value) : Prop where
  len : mg "len" = none
  int : mg "int" = none
  str : mg "str" = none
  bool : mg "bool" = none
  abs : mg "abs" = none
  list : mg "list" = none
  tuple : mg "tuple" = none
  dict : mg "dict" = none
  repr : mg "repr" = none
  sorted : mg "sorted" = none
  sum : mg "sum" = none
  min : mg "min" = none
  max : mg "max" = none
  any : mg "any" = none
  all : mg "all" = none
  range : mg "range" = none
  enumerate : mg "enumerate" = none
  zip : mg "zip" = none
  reversed : mg "reversed" = none
  isinstance : mg "isinstance" = none
/-- exceptions, as the wish takes them -/
def xw (X : Cx) (W : WX) (σ : St) : String → Mem → Mp → Hp → Prop := fun c _ _ H' => ∀ A, cl X c = some A → W (.ref A) none σ H'
/-- an expression's reading: what the machine gives -/
def tE (C : Ctx) (X : Cx) (W : WX) (i : E) : TE := fun σ H Q => ∃ m ρ μ, RelM X m H μ ∧ Loc X m σ ρ ∧ Post X (xw X W σ) m H (evalE C i ρ μ) fun d _ m' H' => ∀ v, Rp X.K m' v d → Q v H'
def tEs (C : Ctx) (X : Cx) (W : WX) (i : Es) : TA := fun σ H Q => ∃ m ρ μ, RelM X m H μ ∧ Loc X m σ ρ ∧ Post X (xw X W σ) m H (evalEs C i ρ μ) fun d _ m' H' => ∀ v, Rps X.K m' v d → Q v H'
theorem imE {e : Expr} {t t' : TE} (h : PE X e t) (i : ∀ σ H Q, t' σ H Q → t σ H Q) : PE X e t' := ⟨fun pins s σ H Q I q => h.run pins s σ H Q I (i σ H Q q)⟩
theorem imT {e : Expr} {t t' : TT} (h : PT X e t) (i : ∀ σ H Q, t' σ H Q → t σ H Q) : PT X e t' := ⟨fun pins s σ H Q I q => h.run pins s σ H Q I (i σ H Q q)⟩
theorem imA {e : List Expr} {t t' : TA} (h : PA X e t) (i : ∀ σ H Q, t' σ H Q → t σ H Q) : PA X e t' := ⟨fun pos pins s σ H Q I q => h.run pos pins s σ H Q I (i σ H Q q)⟩
theorem imS {e : Stmt} {t t' : TS} (h : PS X e t) (i : ∀ D σ H, t' D σ H → t D σ H) : PS X e t' := ⟨fun pins s σ H D I q => h.run pins s σ H D I (i D σ H q)⟩
theorem imSs {e : List Stmt} {t t' : TS} (h : PSs X e t) (i : ∀ D σ H, t' D σ H → t D σ H) : PSs X e t' := ⟨fun pins s σ H D I q => h.run pins s σ H D I (i D σ H q)⟩
/-! ### what the machine does of values -/
/-- one datum in, no exception -/
def r1 (X : Cx) (f : D → Mem → R D) : V → Hp → VK → Prop := fun x H Q => ∃ m μ a, RelM X m H μ ∧ Rp X.K m x a ∧ Post X (fun _ _ _ _ => False) m H (f a μ) fun d _ m' H' => ∀ v, Rp X.K m' v d → Q v H'
def r2 (X : Cx) (f : D → D → Mem → R D) : R2 := fun x y H Q => ∃ m μ a b, RelM X m H μ ∧ Rp X.K m x a ∧ Rp X.K m y b ∧ Post X (fun _ _ _ _ => False) m H (f a b μ) fun d _ m' H' => ∀ v, Rp X.K m' v d → Q v H'
def rN (X : Cx) (f : List D → Mem → R D) : List V → Hp → VK → Prop := fun x H Q => ∃ m μ a, RelM X m H μ ∧ Rps X.K m x a ∧ Post X (fun _ _ _ _ => False) m H (f a μ) fun d _ m' H' => ∀ v, Rp X.K m' v d → Q v H'
/-- nothing done but a value given -/
theorem PostG.give {m : Mp} {H : Hp} {μ : Mem} {d : D} {Q : VK} {v : V} {Xc : String → Mem → Mp → Hp → Prop} (rel : RelM X m H μ) (h : Post X Xc m H (.ok d μ) fun d _ m' H' => ∀ v, Rp X.K m' v d → Q v H') (r : Rp X.K m v d) : Q v H := h m H (Ext.refl m H) rel v r
/-- a new list -/
theorem PostG.newL {m : Mp} {H : Hp} {μ : Mem} {ds : List D} {xs : List V} {Q : VK} {Xc : String → Mem → Mp → Hp → Prop} (rel : RelM X m H μ) (h : Post X Xc m H (newL ds μ) fun d _ m' H' => ∀ v, Rp X.K m' v d → Q v H') (r : Rps X.K m xs ds) :
    ∀ p, H p = none → Q (.ref p) (upd H p (.lst xs)) := fun p hp => by
  have hf : m.fz p = none := by
    cases e : m.fz p with
    | none => rfl
    | some q => rw [rel.fzH _ _ e] at hp; cases hp
  have l : Le m (m.add μ.length p) := ⟨fun k b h => by
    have := rel.top k b h
    show (if k = μ.length then some p else m.al k) = some b
    rw [if_neg (by omega)]
    exact h, fun _ _ h => h⟩
  obtain ⟨q1, q2⟩ := rel.new (c := .lst ds) hp ⟨xs, upd_same, hf, r.mono l⟩
  exact h _ _ q2 q1 _ (.ref (if_pos rfl))
/-- a new tuple -/
theorem PostG.newT {m : Mp} {H : Hp} {μ : Mem} {ds : List D} {xs : List V} {Q : VK} {Xc : String → Mem → Mp → Hp → Prop} (rel : RelM X m H μ) (h : Post X Xc m H (.ok (.tup ds) μ) fun d _ m' H' => ∀ v, Rp X.K m' v d → Q v H') (r : Rps X.K m xs ds) :
    ∀ p, H p = none → Q (.ref p) (upd H p (.tup xs)) := fun p hp => by
  obtain ⟨q1, q2, _⟩ := rel.newF (o := .tup xs) hp
  exact h _ _ q2 q1 _ (.tup (SqT.of upd_same) (r.mono q2.le))
end
end G
/-! The G machine over the hand layer: operators of values. -/
set_option Elab.async false
set_option linter.all false
set_option maxRecDepth 100000
namespace G
open PySem PySem.Spec L2
theorem line_eq : line = sizeLine := by rw [PySem.sizeLine_eq]; rfl
section
variable {X : Cx}
theorem cut_cutV (xs : List V) (lo hi : Option Int) : cutV xs lo hi = cut xs lo hi := by
  have e : ∀ (n : Nat) (i : Int), HT.sIx n 0 (some i) = bound n i ∧ HT.sIx n n (some i) = bound n i := fun n i => ⟨rfl, rfl⟩
  unfold cutV cut
  cases lo with
  | none => cases hi with
    | none =>
      show (xs.drop 0).take (xs.length - 0) = (xs.take xs.length).drop 0
      simp
    | some j =>
      show (xs.drop 0).take (bound xs.length j - 0) = (xs.take (bound xs.length j)).drop 0
      simp
  | some i => cases hi with
    | none =>
      show (xs.drop (bound xs.length i)).take (xs.length - bound xs.length i) = (xs.take xs.length).drop (bound xs.length i)
      rw [List.drop_take]
    | some j =>
      show (xs.drop (bound xs.length i)).take (bound xs.length j - bound xs.length i) = (xs.take (bound xs.length j)).drop (bound xs.length i)
      rw [List.drop_take]
theorem Rps.cut {m : Mp} {xs : List V} {ds : List D} (r : Rps X.K m xs ds) (lo hi : Option Int) : Rps X.K m (G.cut xs lo hi) (G.cut ds lo hi) := by
  unfold G.cut
  rw [r.len]
  exact (r.take _).drop _
theorem Rps.emp {K : PySem.W.Frag} {m : Mp} {xs : List V} {ds : List D} (r : Rps K m xs ds) : xs = [] ↔ ds = [] := by
  cases r with
  | nil => simp
  | cons _ _ => simp
/-- ints by a rule of the layer -/
theorem op_ints {f : Value → Value → Sem Value} {C : Int → Int → Prop} {g : Int → Int → Int} {h : Int → Int → Option D} (o : OpR X f (rI C fun i j => .int (g i j))) (hh : ∀ i j d, h i j = some d → C i j ∧ d = .int (g i j)) :
    OpR X f (r2 X (ints2 h)) := by
  intro pins s σ H x y v u Q I rx ry ⟨m, μ, a, b, rel, ra, rb, post⟩
  cases a with
  | int i => cases b with
    | int j =>
      cases ra; cases rb
      cases e : h i j with
      | none =>
        simp only [ints2, e] at post
        exact post.elim
      | some d =>
        simp only [ints2, e] at post
        obtain ⟨c, rfl⟩ := hh i j d e
        exact o pins s σ H _ _ v u Q I rx ry ⟨i, j, rfl, rfl, c, post.give rel (.int _)⟩
    | _ => exact post.elim
  | _ => exact post.elim
theorem op_sub' : OpR X (binaryOp .Sub) (r2 X (bin .sub)) := op_ints (C := fun _ _ => True) (g := fun i j => i - j)
  (fun pins s σ H x y v u Q I rx ry ⟨i, j, e1, e2, _, q⟩ => op_sub pins s σ H x y v u Q I rx ry ⟨i, j, e1, e2, q⟩) fun i j d e => ⟨trivial, (Option.some.inj e).symm⟩
theorem op_fdiv' : OpR X (binaryOp .FloorDiv) (r2 X (bin .fdiv)) := op_ints (g := fun i j => i / j) op_fdivW fun i j d e => by
  by_cases h : 0 < j ∧ j < 18446744073709551616
  · rw [if_pos h] at e
    exact ⟨wide_div (b := 64) h.1 (by omega) (by decide) (by decide), (Option.some.inj e).symm⟩
  · rw [if_neg h] at e; cases e
theorem op_mod' : OpR X (binaryOp .Mod) (r2 X (bin .mod)) := op_ints (g := fun i j => i % j) op_mod fun i j d e => by
  by_cases h : 0 < j
  · rw [if_pos h] at e
    exact ⟨h, (Option.some.inj e).symm⟩
  · rw [if_neg h] at e; cases e
theorem op_pow' : OpR X (binaryOp .Pow) (r2 X (bin .pow)) := op_ints (g := fun i j => i ^ j.toNat) op_pow fun i j d e => by
  by_cases h : 0 ≤ j ∧ j ≤ 1000000 ∧ i.natAbs < 2 ^ 64
  · rw [if_pos h] at e
    exact ⟨h, (Option.some.inj e).symm⟩
  · rw [if_neg h] at e; cases e
theorem band_eq {i j : Int} (h : 0 ≤ j) : Builtin.bitAnd i j = bandI i j := by
  unfold bandI
  by_cases hi : 0 ≤ i
  · rw [if_pos hi, PyProof.Rows.bitAnd_pp hi h]
  · rw [if_neg hi, PyProof.Rows.bitAnd_np hi h]
    rfl
theorem op_band' : OpR X (binaryOp .BitAnd) (r2 X (bin .band)) := op_ints (C := fun _ j => 0 ≤ j) (g := fun i j => bandI i j)
  (fun pins s σ H x y v u Q I rx ry ⟨i, j, e1, e2, c, q⟩ => op_and pins s σ H x y v u Q I rx ry ⟨i, j, e1, e2, by
    show Q (.int (Builtin.bitAnd i j)) H
    rw [band_eq c]
    exact q⟩) fun i j d e => by
  by_cases h : 0 ≤ j
  · rw [if_pos h] at e
    exact ⟨h, (Option.some.inj e).symm⟩
  · rw [if_neg h] at e; cases e
/-- list + list, read alone -/
theorem op_catL : OpR X (binaryOp .Add) (fun x y H Q => ∃ l b xs zs, x = .ref l ∧ y = .ref b ∧ SqX X.K H l xs ∧ SqX X.K H b zs ∧ xs.length + zs.length ≤ sizeLine ∧ ∀ p, H p = none → Q (.ref p) (upd H p (.lst (xs ++ zs)))) := by
  intro pins s σ H x y v u Q I rx ry h
  obtain ⟨l, b, xs, zs, rfl, rfl, hH, hB, hz, q⟩ := h
  cases rx
  cases ry
  have at_ : ∀ {l : Addr} {xs : List V}, SqX X.K H l xs → ∃ (its : List Value) (n : Nat), Vals xs its ∧ s.heap.get? l = some { cls := .type "list", data := .seq its.toArray n } := fun {l xs} h => by
    rcases h with h | ⟨its, n, h1, h2, h3⟩
    · obtain ⟨_, its, n, r, e⟩ := h.ok I.hok
      exact ⟨its, n, r, e⟩
    · exact ⟨its.toList, n, h3, by rw [Array.toArray_toList]; exact I.kIn _ _ h1⟩
  obtain ⟨its, n, r, e⟩ := at_ hH
  obtain ⟨its2, n2, r2, e2⟩ := at_ hB
  have l1 := r.length
  have l2 := r2.length
  refine PySem.P.add_list e e2 ?_ (by rw [List.size_toArray, List.size_toArray]; omega)
  have ea : its.toArray ++ its2.toArray = (its ++ its2).toArray := by simp
  rw [ea]
  exact ⟨.ref _, _, I.lnew (t' := s.toks) (r.append r2) (by rw [List.length_append]; omega), rfl, q _ I.fresh⟩
theorem op_add' : OpR X (binaryOp .Add) (r2 X (bin .add)) := by
  intro pins s σ H x y v u Q I rx ry ⟨m, μ, a, b, rel, ra, rb, post⟩
  have lists : ∀ (post : Post X (fun _ _ _ _ => False) m H (addL a b μ) fun d _ m' H' => ∀ v, Rp X.K m' v d → Q v H'), wpAny (model X.prog X.w) X.A (binaryOp .Add v u) (EP X pins σ Q) X.xe s := fun post => by
    unfold addL at post
    cases ea : getL μ a with
    | none => rw [ea] at post; exact post.elim
    | some p =>
      cases eb : getL μ b with
      | none => rw [ea, eb] at post; exact post.elim
      | some q =>
        rw [ea, eb] at post
        by_cases hz : p.length + q.length ≤ line
        · simp only [if_pos hz] at post
          obtain ⟨l, xs, rfl, h1, h2⟩ := rel.getL ra ea
          obtain ⟨l', ys, rfl, h3, h4⟩ := rel.getL rb eb
          exact op_catL pins s σ H _ _ v u Q I rx ry ⟨l, l', xs, ys, rfl, rfl, h1, h3, by rw [h2.len, h4.len, ← line_eq]; exact hz, post.newL rel (h2.app h4)⟩
        · simp only [if_neg hz] at post
          exact post.elim
  cases a with
  | int i => cases b with
    | int j =>
      cases ra; cases rb
      exact op_add pins s σ H _ _ v u Q I rx ry ⟨i, j, rfl, rfl, post.give rel (.int _)⟩
    | _ => exact post.elim
  | str z => cases b with
    | str w =>
      have post : Post X (fun _ _ _ _ => False) m H (if z.length + w.length ≤ line then R.ok (.str (z ++ w)) μ else .bad) fun d _ m' H' => ∀ v, Rp X.K m' v d → Q v H' := post
      by_cases hz : z.length + w.length ≤ line
      · rw [if_pos hz] at post
        cases ra; cases rb
        refine op_add_str pins s σ H _ _ v u Q I rx ry ⟨cs z, cs w, rfl, rfl, by rw [cs_len, cs_len, ← line_eq]; exact hz, ?_⟩
        rw [← cs_append]
        exact post.give rel (.str _ (by rw [List.length_append]; exact hz))
      · rw [if_neg hz] at post
        exact post.elim
    | _ => exact post.elim
  | tup z => cases b with
    | tup w =>
      have post : Post X (fun _ _ _ _ => False) m H (if z ≠ [] ∧ z.length + w.length ≤ line then R.ok (.tup (z ++ w)) μ else .bad) fun d _ m' H' => ∀ v, Rp X.K m' v d → Q v H' := post
      by_cases hz : z ≠ [] ∧ z.length + w.length ≤ line
      · rw [if_pos hz] at post
        obtain ⟨p, xs, rfl, h1, h2⟩ := rel.getT ra
        obtain ⟨q, ys, rfl, h3, h4⟩ := rel.getT rb
        refine op_catT pins s σ H _ _ v u Q I rx ry ⟨p, q, xs, ys, rfl, rfl, h1, h3, fun e => hz.1 (h2.emp.mp e), by rw [h2.len, h4.len, ← line_eq]; exact hz.2, fun e => ?_, fun _ => post.newT rel (h2.app h4)⟩
        have e2 := h4.emp.mp e
        subst e2
        rw [List.append_nil] at post
        exact post.give rel ra
      · rw [if_neg hz] at post
        exact post.elim
    | _ => exact post.elim
  | lst z => exact lists post
  | ref k => exact lists post
  | _ => exact post.elim
theorem flat_rep {α : Type} (l : List α) : ∀ (n : Nat) (acc : List α), (List.replicate n l.toArray).foldl (· ++ ·) acc.toArray = (acc ++ (List.replicate n l).flatten).toArray
  | 0, acc => by simp
  | n + 1, acc => by
    rw [List.replicate_succ, List.foldl_cons, show acc.toArray ++ l.toArray = (acc ++ l).toArray by simp, flat_rep l n (acc ++ l), List.replicate_succ, List.flatten_cons, List.append_assoc]
theorem Rps.rep {K : PySem.W.Frag} {m : Mp} {xs : List V} {ds : List D} (r : Rps K m xs ds) : ∀ n : Nat, Rps K m (List.replicate n xs).flatten (List.replicate n ds).flatten
  | 0 => .nil
  | n + 1 => by
    rw [List.replicate_succ, List.replicate_succ, List.flatten_cons, List.flatten_cons]
    exact r.app (r.rep n)
theorem len_rep {α : Type} (l : List α) : ∀ n : Nat, (List.replicate n l).flatten.length = l.length * n
  | 0 => by simp
  | n + 1 => by
    rw [List.replicate_succ, List.flatten_cons, List.length_append, len_rep l n, Nat.mul_succ]
    omega
/-- a text times an int -/
theorem op_mulS : OpR X (binaryOp .Mult) (fun x y H Q => ∃ z j, x = .str (cs z) ∧ y = .int j ∧ z.length * j.toNat ≤ sizeLine ∧ 0 ≤ j ∧ j < 2 ^ 62 ∧ Q (.str (cs (List.replicate j.toNat z).flatten)) H) := by
  intro pins s σ H x y v u Q I rx ry ⟨z, j, ex, ey, hz, h0, h1, q⟩
  subst ex ey
  obtain ⟨t, rfl⟩ := rx
  obtain ⟨t', rfl⟩ := ry
  have hs : sizeLine = 16777216 := PySem.sizeLine_eq
  have hj : j = ((j.toNat : Nat) : Int) := by omega
  refine PySem.P.mul_str ?_ (fun h2 h3 => ?_) (fun h2 h3 => ?_) ?_
  · rw [decide_eq_false (by omega), decide_eq_false (by omega)]
    rfl
  · intro h4
    rw [cs_len] at h4
    have h5 : z.length * j.toNat ≤ 16777216 := by omega
    have h6 : ((z.length : Int)) * j ≤ 16777216 := by
      have h9 : ((z.length * j.toNat : Nat) : Int) ≤ ((16777216 : Nat) : Int) := Int.ofNat_le.mpr h5
      rw [Int.natCast_mul, ← hj] at h9
      exact h9
    have h7 : (2 ^ 63 - 1) / j < (z.length : Int) := h4
    have h8 : (2 ^ 63 - 1 : Int) < (z.length : Int) * j := by
      have := Int.lt_mul_of_ediv_lt (a := (2 ^ 63 - 1 : Int)) (b := (z.length : Int)) (c := j) (by omega) h7
      exact this
    omega
  · rw [cs_len]
    unfold Builtin.Str.tooLong
    have : ¬ z.length * j.toNat > sizeLine := by omega
    exact decide_eq_false this
  · have val : (⟨(List.replicate j.toNat (cs z).cps).foldl (· ++ ·) #[]⟩ : PySem.Str) = cs (List.replicate j.toNat z).flatten := by
      have := flat_rep (z.map Char.toNat) j.toNat []
      rw [List.nil_append] at this
      have e : (cs z).cps = (z.map Char.toNat).toArray := rfl
      rw [e]
      show (⟨(List.replicate j.toNat (z.map Char.toNat).toArray).foldl (· ++ ·) (([] : List Nat).toArray)⟩ : PySem.Str) = _
      rw [this]
      unfold cs
      congr 2
      have f : ∀ n : Nat, (List.replicate n (z.map Char.toNat)).flatten = ((List.replicate n z).flatten).map Char.toNat := fun n => by
        induction n with
        | zero => rfl
        | succ n ih => rw [List.replicate_succ, List.replicate_succ, List.flatten_cons, List.flatten_cons, List.map_append, ih]
      exact f _
    by_cases h2 : j < 1
    · rw [if_pos h2]
      have e0 : j.toNat = 0 := by omega
      refine ⟨by decide, .str PySem.Str.empty, H, I.tok _, ⟨_, rfl⟩, ?_⟩
      have : cs (List.replicate j.toNat z).flatten = PySem.Str.empty := by rw [e0]; rfl
      rw [this] at q
      exact q
    · rw [if_neg h2]
      by_cases h3 : (j == 1 || (cs z).length == 0) = true
      · rw [if_pos h3]
        refine ⟨.str (cs z), H, I, ⟨t, rfl⟩, ?_⟩
        have : cs (List.replicate j.toNat z).flatten = cs z := by
          rw [Bool.or_eq_true] at h3
          rcases h3 with h3 | h3
          · have : j = 1 := beq_iff_eq.mp h3
            subst this
            show cs (List.replicate 1 z).flatten = cs z
            simp
          · have h4 : (cs z).length = 0 := beq_iff_eq.mp h3
            rw [cs_len] at h4
            have h5 : z = [] := List.length_eq_zero_iff.mp h4
            subst h5
            simp
        rw [this] at q
        exact q
      · rw [if_neg h3, val]
        refine ⟨by rw [cs_len, len_rep]; exact hz, .str _, H, I.tok _, ⟨_, rfl⟩, q⟩
theorem op_mul' : OpR X (binaryOp .Mult) (r2 X (bin .mul)) := by
  intro pins s σ H x y v u Q I rx ry ⟨m, μ, a, b, rel, ra, rb, post⟩
  cases a with
  | int i => cases b with
    | int j =>
      have post : Post X (fun _ _ _ _ => False) m H (if mulOk i j = true then R.ok (.int (i * j)) μ else .bad) fun d _ m' H' => ∀ v, Rp X.K m' v d → Q v H' := post
      by_cases hz : mulOk i j = true
      · rw [if_pos hz] at post
        cases ra; cases rb
        refine op_mul pins s σ H _ _ v u Q I rx ry ⟨i, j, rfl, rfl, ?_, post.give rel (.int _)⟩
        unfold mulOk small at hz
        simp only [Bool.or_eq_true, Bool.and_eq_true, decide_eq_true_eq] at hz
        exact hz
      · rw [if_neg hz] at post
        exact post.elim
    | _ => exact post.elim
  | str z => cases b with
    | int j =>
      have post : Post X (fun _ _ _ _ => False) m H (if z.length * j.toNat ≤ line ∧ 0 ≤ j ∧ j < 2 ^ 62 then R.ok (.str ((List.replicate j.toNat z).flatten)) μ else .bad) fun d _ m' H' => ∀ v, Rp X.K m' v d → Q v H' := post
      by_cases hz : z.length * j.toNat ≤ line ∧ 0 ≤ j ∧ j < 2 ^ 62
      · rw [if_pos hz] at post
        cases ra; cases rb
        exact op_mulS pins s σ H _ _ v u Q I rx ry ⟨z, j, rfl, rfl, by rw [← line_eq]; exact hz.1, hz.2.1, hz.2.2, post.give rel (.str _ (by rw [len_rep]; exact hz.1))⟩
      · rw [if_neg hz] at post
        exact post.elim
    | _ => exact post.elim
  | ref k => cases b with
    | int j =>
      cases e : μ[k]? with
      | none => simp only [bin, mulD, mulL, G.getL, e] at post; exact post.elim
      | some c =>
        obtain ⟨p, rfl, hk, cc⟩ := rel.at_ ra e
        cases c with
        | lst ds =>
          have post : Post X (fun _ _ _ _ => False) m H (if ds.length * j.toNat ≤ line ∧ -(2 ^ 63) ≤ j ∧ j < 2 ^ 63 then newL ((List.replicate j.toNat ds).flatten) μ else .bad) fun d _ m' H' => ∀ v, Rp X.K m' v d → Q v H' := by
            simp only [bin, mulD, mulL, G.getL, e] at post
            exact post
          by_cases hz : ds.length * j.toNat ≤ line ∧ -(2 ^ 63) ≤ j ∧ j < 2 ^ 63
          · rw [if_pos hz] at post
            obtain ⟨xs, h1, _, h3⟩ := cc
            cases rb
            refine op_rep pins s σ H _ _ v u Q I rx ry ⟨p, j, xs, rfl, rfl, h1, hz.2.1, hz.2.2, by rw [h3.len, ← line_eq]; exact hz.1, post.newL rel (h3.rep _)⟩
          · rw [if_neg hz] at post
            exact post.elim
        | fz ds =>
          have post : Post X (fun _ _ _ _ => False) m H (if ds.length * j.toNat ≤ line ∧ -(2 ^ 63) ≤ j ∧ j < 2 ^ 63 then newL ((List.replicate j.toNat ds).flatten) μ else .bad) fun d _ m' H' => ∀ v, Rp X.K m' v d → Q v H' := by
            simp only [bin, mulD, mulL, G.getL, e] at post
            exact post
          by_cases hz : ds.length * j.toNat ≤ line ∧ -(2 ^ 63) ≤ j ∧ j < 2 ^ 63
          · rw [if_pos hz] at post
            obtain ⟨xs, h1, h3⟩ := cc
            cases rb
            refine op_rep pins s σ H _ _ v u Q I rx ry ⟨p, j, xs, rfl, rfl, rel.fzH _ _ h1, hz.2.1, hz.2.2, by rw [h3.len, ← line_eq]; exact hz.1, post.newL rel (h3.rep _)⟩
          · rw [if_neg hz] at post
            exact post.elim
        | dict _ => simp only [bin, mulD, mulL, G.getL, e] at post; exact post.elim
        | obj _ _ => simp only [bin, mulD, mulL, G.getL, e] at post; exact post.elim
    | _ => exact post.elim
  | _ => exact post.elim
end
end G
/-! The G machine over the hand layer: comparisons, truth. -/
set_option Elab.async false
set_option linter.all false
set_option maxRecDepth 100000
namespace G
open PySem PySem.Spec L2
/-! ### data of the library -/
mutual
def toPy : D → PyData
  | .non => .none
  | .bl b => .bool b
  | .int i => .int i
  | .str x => .str (cs x)
  | .tup ds => .tuple (toPys ds)
  | .lst ds => .list (toPys ds)
  | .ref _ => .none
def toPys : List D → List PyData
  | [] => []
  | d :: ds => toPy d :: toPys ds
end
theorem cs_ok (x : Tx) : PyData.strOk (cs x) = true := by
  unfold PyData.strOk
  rw [← Array.all_toList, cs_cps, List.all_eq_true]
  intro n hn
  obtain ⟨c, _, rfl⟩ := List.mem_map.mp hn
  have h := c.valid
  have h2 : c.toNat < 1114112 := by
    rcases h with h | h
    · show c.val.toNat < 1114112
      have : c.val.toNat < 55296 := h
      omega
    · exact h.2
  exact decide_eq_true h2
mutual
theorem toPy_lay : ∀ d : D, (toPy d).canLay0 = true
  | .non => by simp [toPy, PyData.canLay0]
  | .bl _ => by simp [toPy, PyData.canLay0]
  | .int _ => by simp [toPy, PyData.canLay0]
  | .str x => by simp only [toPy, PyData.canLay0, cs_ok]
  | .tup ds => by simp only [toPy, PyData.canLay0]; exact toPys_lay ds
  | .lst ds => by simp only [toPy, PyData.canLay0]; exact toPys_lay ds
  | .ref _ => by simp [toPy, PyData.canLay0]
theorem toPys_lay : ∀ ds : List D, PyData.canLayAll0 (toPys ds) = true
  | [] => by simp [toPys, PyData.canLayAll0]
  | d :: ds => by simp only [toPys, PyData.canLayAll0, toPy_lay d, toPys_lay ds, Bool.and_self]
end
mutual
theorem toPy_depth : ∀ d : D, (toPy d).depth = d.depth
  | .non => by simp [toPy, PyData.depth, D.depth]
  | .bl _ => by simp [toPy, PyData.depth, D.depth]
  | .int _ => by simp [toPy, PyData.depth, D.depth]
  | .str x => by simp [toPy, PyData.depth, D.depth]
  | .tup ds => by simp only [toPy, PyData.depth, D.depth, toPys_depth ds]
  | .lst ds => by simp only [toPy, PyData.depth, D.depth, toPys_depth ds]
  | .ref _ => by simp [toPy, PyData.depth, D.depth]
theorem toPys_depth : ∀ ds : List D, PyData.depthAll (toPys ds) = D.depths ds
  | [] => by simp [toPys, PyData.depthAll, D.depths]
  | d :: ds => by simp only [toPys, PyData.depthAll, D.depths, toPy_depth d, toPys_depth ds]
end
theorem cs_beq (x y : Tx) : (cs x == cs y) = (x == y) := by
  rw [Bool.eq_iff_iff, beq_iff_eq, beq_iff_eq, cs_eq]
mutual
theorem eqv_py : ∀ a b : D, a.noref = true → b.noref = true → PyData.eqv (toPy a) (toPy b) = a.eqv b
  | .non, b, _, h => by cases b <;> first | (simp [D.noref] at h; done) | simp [toPy, PyData.eqv, D.eqv]
  | .bl _, b, _, h => by cases b <;> first | (simp [D.noref] at h; done) | simp [toPy, PyData.eqv, D.eqv, b2i]
  | .int _, b, _, h => by cases b <;> first | (simp [D.noref] at h; done) | simp [toPy, PyData.eqv, D.eqv, b2i]
  | .str x, b, _, h => by cases b <;> first | (simp [D.noref] at h; done) | simp only [toPy, PyData.eqv, D.eqv, cs_beq]
  | .tup x, b, ha, h => by
    cases b with
    | tup y => simp only [toPy, PyData.eqv, D.eqv]; exact eqvs_py x y (by simpa [D.noref] using ha) (by simpa [D.noref] using h)
    | ref _ => simp [D.noref] at h
    | _ => simp [toPy, PyData.eqv, D.eqv]
  | .lst x, b, ha, h => by
    cases b with
    | lst y => simp only [toPy, PyData.eqv, D.eqv]; exact eqvs_py x y (by simpa [D.noref] using ha) (by simpa [D.noref] using h)
    | ref _ => simp [D.noref] at h
    | _ => simp [toPy, PyData.eqv, D.eqv]
  | .ref _, _, h, _ => by simp [D.noref] at h
theorem eqvs_py : ∀ a b : List D, D.norefs a = true → D.norefs b = true → PyData.eqvAll (toPys a) (toPys b) = D.eqvs a b
  | [], [], _, _ => by simp [toPys, PyData.eqvAll, D.eqvs]
  | [], _ :: _, _, _ => by simp [toPys, PyData.eqvAll, D.eqvs]
  | _ :: _, [], _, _ => by simp [toPys, PyData.eqvAll, D.eqvs]
  | a :: as, b :: bs, ha, hb => by
    simp only [D.norefs, Bool.and_eq_true] at ha hb
    simp only [toPys, PyData.eqvAll, D.eqvs, eqv_py a b ha.1 hb.1, eqvs_py as bs ha.2 hb.2]
end
section
variable {X : Cx} {m : Mp} {H : Hp} {μ : Mem}
mutual
theorem Rp.dp (rel : RelM X m H μ) : ∀ (d : D) (v : V), Rp X.K m v d → d.noref = true → Dp X.K H v (toPy d)
  | .non, _, h, _ => by cases h; simp only [toPy]; exact .non
  | .bl _, _, h, _ => by cases h; simp only [toPy]; exact .bl _
  | .int _, _, h, _ => by cases h; simp only [toPy]; exact .int _
  | .str _, _, h, _ => by cases h with | str _ hx => simp only [toPy]; exact .str _
  | .tup ds, _, h, n => by
    cases h with
    | tup h1 h2 => simp only [toPy]; exact .tup (rel.sqT h1) (Rps.dp rel ds _ h2 (by simpa [D.noref] using n))
  | .lst ds, _, h, n => by
    cases h with
    | lst h1 h2 => simp only [toPy]; exact .lst (rel.sqX h1).l (Rps.dp rel ds _ h2 (by simpa [D.noref] using n))
  | .ref _, _, _, n => by simp [D.noref] at n
theorem Rps.dp (rel : RelM X m H μ) : ∀ (ds : List D) (vs : List V), Rps X.K m vs ds → D.norefs ds = true → DpAll X.K H vs (toPys ds)
  | [], _, h, _ => by cases h; simp only [toPys]; exact .nil
  | d :: ds, _, h, n => by
    cases h with
    | cons h1 h2 =>
      simp only [D.norefs, Bool.and_eq_true] at n
      simp only [toPys]
      exact .cons (Rp.dp rel d _ h1 n.1) (Rps.dp rel ds _ h2 n.2)
end
theorem RelG.dpLook (rel : RelM X m H μ) {d : D} {v : V} (r : Rp X.K m v d) (n : (look μ d).noref = true) : Dp X.K H v (toPy (look μ d)) := by
  cases d with
  | ref k =>
    cases e : μ[k]? with
    | none => simp [look, e, D.noref] at n
    | some c =>
      obtain ⟨p, rfl, hk, cc⟩ := rel.at_ r e
      cases c with
      | lst ds =>
        obtain ⟨xs, h1, _, h3⟩ := cc
        simp only [look, e, D.noref] at n ⊢
        simp only [toPy]
        exact .lst (SqL.of h1) (Rps.dp rel ds _ h3 n)
      | fz ds =>
        obtain ⟨xs, h1, h3⟩ := cc
        simp only [look, e, D.noref] at n ⊢
        simp only [toPy]
        exact .lst (SqL.of (rel.fzH _ _ h1)) (Rps.dp rel ds _ h3 n)
      | dict _ => simp [look, e, D.noref] at n
      | obj _ _ => simp [look, e, D.noref] at n
  | _ => exact Rp.dp rel _ _ r n
/-! ### == and != -/
theorem kGet_valV {K : PySem.W.Frag} : ∀ {ys : List (L2.Key × V)} {kvs : List (Key × D)} (k : Key), KRp K m ys kvs → match kGet k kvs with
    | none => valV ys (kk k) = none
    | some d => ∃ v, valV ys (kk k) = some v ∧ Rp K m v d
  | _, _, k, .nil => by
    show valV [] (kk k) = none
    rfl
  | (a, v) :: ys, (b, d) :: kvs, k, .cons ⟨r1, _, r2⟩ t => by
    have ih := kGet_valV k t
    have r1 : a = kk b := r1
    subst r1
    by_cases e : b = k
    · subst e
      simp only [kGet, if_true]
      exact ⟨v, valV_pos rfl, r2⟩
    · simp only [kGet, if_neg e]
      have ne : ¬ ((kk b, v) : L2.Key × V).1 = kk k := fun h => e (kk_inj h)
      rw [valV_neg ne]
      exact ih
theorem look_at (rel : RelM X m H μ) {pins : List (Addr × Obj)} {σ : L2.St} {s : Shared} (I : L2.Inv X pins σ H s) {a b : D} {x y : V} {v u : Value} {A : Around} (ra : Rp X.K m x a) (rb : Rp X.K m y b) (rx : RelV x v) (ry : RelV y u) (ha : (look μ a).noref = true) (hb : (look μ b).noref = true)
    (hd : A.units + min (look μ a).depth (look μ b).depth < cLine) : SeqAt.EqAt A s v u ((look μ a).eqv (look μ b)) := by
  obtain ⟨as, r1⟩ := Dp.reads I _ x v (rel.dpLook ra ha) rx
  obtain ⟨bs, r2⟩ := Dp.reads I _ y u (rel.dpLook rb hb) ry
  rw [← eqv_py _ _ ha hb]
  exact SeqAt.eqAt_reads _ _ A s v u as bs r1 r2 (toPy_lay _) (toPy_lay _) (by rw [toPy_depth, toPy_depth]; exact hd)
theorem dict_hits (rel : RelM X m H μ) {pins : List (Addr × Obj)} {σ : L2.St} {s : Shared} (I : L2.Inv X pins σ H s) {A : Around} (hu : A.units + 63 < cLine) {yb : List (L2.Key × V)} {vb : List (L2.Key × Value)} {kb : List (Key × D)} (rb : KRp X.K m yb kb) (kvb : L2.KV yb vb) (okb : kb.all (fun p => valOk μ p.2) = true) :
    ∀ {ya : List (L2.Key × V)} {va : List (L2.Key × Value)} {ka : List (Key × D)}, KRp X.K m ya ka → L2.KV ya va → ka.all (fun p => valOk μ p.2) = true → PySem.W.KeqHits A s vb va (eqPairs μ kb ka)
  | [], _, [], .nil, h, _ => by
    cases h
    exact .nil
  | (key, w) :: ya, _, (k, d) :: ka, .cons ⟨r1, _, r2⟩ t, h, ok => by
    cases h with
    | @cons p q ps qs h1 h2 =>
      have r1 : key = kk k := r1
      subst r1
      obtain ⟨q1, v⟩ := q
      have e1 : kk k = q1 := h1.1
      subst e1
      have rv : RelV w v := h1.2
      simp only [List.all_cons, Bool.and_eq_true] at ok
      have ih := dict_hits rel I hu rb kvb okb t h2 ok.2
      have hv := kGet_valV k rb
      have hval := kvb.val (kk k)
      unfold eqPairs
      cases e : kGet k kb with
      | none =>
        rw [e] at hv
        rw [hv] at hval
        exact .miss hval.none_of
      | some d2 =>
        rw [e] at hv
        obtain ⟨w2, hw, rw2⟩ := hv
        rw [hw] at hval
        obtain ⟨u2, hu2, ru2⟩ := hval.some_of
        have okd : valOk μ d2 = true := by
          have hm : ∀ {l : List (Key × D)}, kGet k l = some d2 → l.all (fun p => valOk μ p.2) = true → valOk μ d2 = true := fun {l} => by
            induction l with
            | nil => intro h; cases h
            | cons p l ih =>
              intro h h'
              simp only [List.all_cons, Bool.and_eq_true] at h'
              obtain ⟨j, dd⟩ := p
              unfold kGet at h
              split at h
              · cases h
                exact h'.1
              · exact ih h h'.2
          exact hm e okb
        have o1 := ok.1
        unfold valOk at o1 okd
        simp only [Bool.and_eq_true, decide_eq_true_eq] at o1 okd
        exact .hit hu2 (look_at rel I r2 rw2 rv ru2 o1.1 okd.1 (by omega)) ih
theorem dict_cell (rel : RelM X m H μ) {a : D} {x : V} {ka : List (Key × D)} (ra : Rp X.K m x a) (h : dictOf μ a = some ka) : ∃ p ys, x = .ref p ∧ H p = some (.dK ys) ∧ KRp X.K m ys ka := by
  unfold dictOf at h
  cases a with
  | ref k =>
    simp only [] at h
    split at h
    · next kvs e =>
      cases h
      obtain ⟨p, rfl, hk, ys, h1, h2, h3⟩ := rel.at_ ra e
      exact ⟨p, ys, rfl, h1, h3⟩
    · cases h
  | _ => cases h
theorem op_eq' (hu : X.A.units + 64 < cLine) : OpR X (compareOp .Eq) (r2 X (cmpR .eq)) := by
  intro pins s σ H x y v u Q I rx ry ⟨m, μ, a, b, rel, ra, rb, post⟩
  simp only [cmpR, cmpD] at post
  cases e : eqD μ a b with
  | none => rw [e] at post; exact post.elim
  | some c =>
    rw [e] at post
    have fin : Q (.bl c) H := post.give rel (.bl c)
    unfold eqD at e
    cases ea : dictOf μ a with
    | none =>
      rw [ea] at e
      simp only [eqSeq] at e
      split at e
      · next cc =>
        simp only [Bool.and_eq_true, decide_eq_true_eq] at cc
        cases e
        obtain ⟨as, r1⟩ := Dp.reads I _ x v (rel.dpLook ra cc.1.1) rx
        obtain ⟨bs, r2⟩ := Dp.reads I _ y u (rel.dpLook rb cc.1.2) ry
        refine SeqAt.compareEq_reads r1 r2 (toPy_lay _) (toPy_lay _) ?_ ⟨.bl _, H, I, rfl, ?_⟩
        · rw [toPy_depth, toPy_depth]
          have := cc.2
          omega
        · rw [eqv_py _ _ cc.1.1 cc.1.2]
          exact fin
      · cases e
    | some ka =>
      rw [ea] at e
      cases eb : dictOf μ b with
      | none => rw [eb] at e; cases e
      | some kb =>
        rw [eb] at e
        simp only [] at e
        split at e
        · next cc =>
          rw [Bool.and_eq_true] at cc
          cases e
          obtain ⟨p, ya, rfl, h1, q1⟩ := dict_cell rel ra ea
          obtain ⟨p2, yb, rfl, h2, q2⟩ := dict_cell rel rb eb
          cases rx
          cases ry
          obtain ⟨_, na, va, kva, da⟩ := (show ObjOk X.prog X.w H s.heap p (.dK ya) from I.hok p _ h1)
          obtain ⟨_, nb, vb, kvb, db⟩ := (show ObjOk X.prog X.w H s.heap p2 (.dK yb) from I.hok p2 _ h2)
          refine PySem.W.keq_eq (knd := mixKind X.prog X.w) na nb da db (by omega) (fun _ => dict_hits rel I (by show X.A.units + 1 + 63 < cLine; omega) q2 kvb cc.2 q1 kva cc.1) ⟨.bl _, H, I, rfl, ?_⟩
          have e1 : (va.length == vb.length) = decide (ka.length = kb.length) := by rw [← kva.length, ← kvb.length, q1.length, q2.length]; rfl
          rw [e1]
          exact fin
        · cases e
theorem op_ne' (hu : X.A.units + 64 < cLine) : OpR X (compareOp .NotEq) (r2 X (cmpR .ne)) := by
  intro pins s σ H x y v u Q I rx ry ⟨m, μ, a, b, rel, ra, rb, post⟩
  simp only [cmpR, cmpD] at post
  cases e : eqD μ a b with
  | none => rw [e] at post; exact post.elim
  | some c =>
    rw [e] at post
    have fin : Q (.bl (!c)) H := post.give rel (.bl (!c))
    unfold eqD at e
    cases ea : dictOf μ a with
    | none =>
      rw [ea] at e
      simp only [eqSeq] at e
      split at e
      · next cc =>
        simp only [Bool.and_eq_true, decide_eq_true_eq] at cc
        cases e
        obtain ⟨as, r1⟩ := Dp.reads I _ x v (rel.dpLook ra cc.1.1) rx
        obtain ⟨bs, r2⟩ := Dp.reads I _ y u (rel.dpLook rb cc.1.2) ry
        refine SeqAt.compareNe_reads r1 r2 (toPy_lay _) (toPy_lay _) ?_ ⟨.bl _, H, I, rfl, ?_⟩
        · rw [toPy_depth, toPy_depth]
          have := cc.2
          omega
        · rw [eqv_py _ _ cc.1.1 cc.1.2]
          exact fin
      · cases e
    | some ka =>
      rw [ea] at e
      cases eb : dictOf μ b with
      | none => rw [eb] at e; cases e
      | some kb =>
        rw [eb] at e
        simp only [] at e
        split at e
        · next cc =>
          rw [Bool.and_eq_true] at cc
          cases e
          obtain ⟨p, ya, rfl, h1, q1⟩ := dict_cell rel ra ea
          obtain ⟨p2, yb, rfl, h2, q2⟩ := dict_cell rel rb eb
          cases rx
          cases ry
          obtain ⟨_, na, va, kva, da⟩ := (show ObjOk X.prog X.w H s.heap p (.dK ya) from I.hok p _ h1)
          obtain ⟨_, nb, vb, kvb, db⟩ := (show ObjOk X.prog X.w H s.heap p2 (.dK yb) from I.hok p2 _ h2)
          refine PySem.W.keq_ne (knd := mixKind X.prog X.w) na nb da db (by omega) (fun _ => dict_hits rel I (by show X.A.units + 1 + 63 < cLine; omega) q2 kvb cc.2 q1 kva cc.1) ⟨.bl _, H, I, rfl, ?_⟩
          have e1 : (va.length == vb.length) = decide (ka.length = kb.length) := by rw [← kva.length, ← kvb.length, q1.length, q2.length]; rfl
          rw [e1]
          exact fin
        · cases e
/-! ### orders -/
theorem txLt_iff : ∀ x y : Tx, txLt x y = true ↔ x.map Char.toNat < y.map Char.toNat
  | x, [] => by cases x <;> simp [txLt]
  | [], _ :: _ => by simp [txLt]
  | a :: as, b :: bs => by
    have ih := txLt_iff as bs
    have e1 : a < b ↔ a.toNat < b.toNat := Iff.rfl
    have e2 : a = b ↔ a.toNat = b.toNat := ⟨fun h => by rw [h], charNat_inj⟩
    simp only [txLt, Bool.or_eq_true, Bool.and_eq_true, decide_eq_true_eq, beq_iff_eq, ih, List.map_cons, List.cons_lt_cons_iff, e1, e2]
theorem txLt_dec (x y : Tx) : decide ((cs x).cps.toList < (cs y).cps.toList) = txLt x y := by
  rw [cs_cps, cs_cps, Bool.eq_iff_iff, decide_eq_true_eq, txLt_iff]
/-- an order by the layer's two rules -/
theorem op_ord {f : Value → Value → Sem Value} {op : Cmp} {gi : Int → Int → Bool} {gs : Tx → Tx → Bool} (hd : ∀ a b μ, cmpD op a b μ = match a, b with
      | .int i, .int j => some (gi i j)
      | .str x, .str y => some (gs x y)
      | _, _ => none)
    (o1 : OpR X f (rI0 fun i j => .bl (gi i j))) (o2 : OpR X f (fun x y H Q => ∃ i j, x = .str (cs i) ∧ y = .str (cs j) ∧ Q (.bl (gs i j)) H)) : OpR X f (r2 X (cmpR op)) := by
  intro pins s σ H x y v u Q I rx ry ⟨m, μ, a, b, rel, ra, rb, post⟩
  cases a with
  | int i => cases b with
    | int j =>
      cases ra; cases rb
      simp only [cmpR, hd] at post
      exact o1 pins s σ H _ _ v u Q I rx ry ⟨i, j, rfl, rfl, post.give rel (.bl _)⟩
    | _ => simp only [cmpR, hd] at post; exact post.elim
  | str i => cases b with
    | str j =>
      cases ra; cases rb
      simp only [cmpR, hd] at post
      exact o2 pins s σ H _ _ v u Q I rx ry ⟨i, j, rfl, rfl, post.give rel (.bl _)⟩
    | _ => simp only [cmpR, hd] at post; exact post.elim
  | _ => simp only [cmpR, hd] at post; exact post.elim
theorem op_lt' : OpR X (compareOp .Lt) (r2 X (cmpR .lt)) := op_ord (gi := fun i j => decide (i < j)) (gs := fun x y => txLt x y) (fun a b μ => by cases a <;> cases b <;> rfl) op_lt
  fun pins s σ H x y v u Q I rx ry ⟨i, j, e1, e2, q⟩ => op_lt_str pins s σ H x y v u Q I rx ry ⟨cs i, cs j, e1, e2, by rw [txLt_dec]; exact q⟩
theorem op_gt' : OpR X (compareOp .Gt) (r2 X (cmpR .gt)) := op_ord (gi := fun i j => decide (j < i)) (gs := fun x y => txLt y x) (fun a b μ => by cases a <;> cases b <;> rfl) op_gt
  fun pins s σ H x y v u Q I rx ry ⟨i, j, e1, e2, q⟩ => op_gt_str pins s σ H x y v u Q I rx ry ⟨cs i, cs j, e1, e2, by rw [txLt_dec]; exact q⟩
theorem op_le' : OpR X (compareOp .LtE) (r2 X (cmpR .le)) := op_ord (gi := fun i j => decide (i ≤ j)) (gs := fun x y => !txLt y x) (fun a b μ => by cases a <;> cases b <;> rfl) op_le
  fun pins s σ H x y v u Q I rx ry ⟨i, j, e1, e2, q⟩ => op_le_str pins s σ H x y v u Q I rx ry ⟨cs i, cs j, e1, e2, by rw [txLt_dec]; exact q⟩
theorem op_ge' : OpR X (compareOp .GtE) (r2 X (cmpR .ge)) := op_ord (gi := fun i j => decide (j ≤ i)) (gs := fun x y => !txLt x y) (fun a b μ => by cases a <;> cases b <;> rfl) op_ge
  fun pins s σ H x y v u Q I rx ry ⟨i, j, e1, e2, q⟩ => op_ge_str pins s σ H x y v u Q I rx ry ⟨cs i, cs j, e1, e2, by rw [txLt_dec]; exact q⟩
/-! ### is None -/
theorem op_isnone' : OpR X (compareOp .Is) (r2 X (cmpR .isnone)) := by
  intro pins s σ H x y v u Q I rx ry ⟨m, μ, a, b, rel, ra, rb, post⟩
  cases b with
  | non =>
    cases rb
    refine op_isN pins s σ H x _ v u Q I rx ry ⟨rfl, ?_⟩
    cases a with
    | non =>
      cases ra
      exact post.give rel (.bl _)
    | _ =>
      have hx : decide (x = V.non) = false := by cases ra <;> rfl
      rw [hx]
      exact post.give rel (.bl _)
  | _ => exact post.elim
theorem op_notnone' : OpR X (compareOp .IsNot) (r2 X (cmpR .notnone)) := by
  intro pins s σ H x y v u Q I rx ry ⟨m, μ, a, b, rel, ra, rb, post⟩
  cases b with
  | non =>
    cases rb
    refine op_notN pins s σ H x _ v u Q I rx ry ⟨rfl, ?_⟩
    cases a with
    | non =>
      cases ra
      exact post.give rel (.bl _)
    | _ =>
      have hx : decide (x = V.non) = false := by cases ra <;> rfl
      rw [hx]
      exact post.give rel (.bl _)
  | _ => exact post.elim
/-! ### in -/
theorem keyOf_V {K : PySem.W.Frag} {a : D} {v : V} {k : Key} (r : Rp K m v a) (h : keyOf a = some k) : v = kV (kk k) := by
  cases a with
  | int i =>
    cases r
    cases h
    rfl
  | str x =>
    cases r
    cases h
    rfl
  | _ => cases h
theorem flat_V {K : PySem.W.Frag} {a : D} {v : V} (r : Rp K m v a) (h : flat a = true) : flatV v = true := by
  cases r <;> first | rfl | cases h
theorem flats_V {K : PySem.W.Frag} : ∀ {xs : List V} {ds : List D}, Rps K m xs ds → ds.all flat = true → xs.all flatV = true
  | _, _, .nil, _ => rfl
  | _, _, .cons r t, h => by
    rw [List.all_cons, Bool.and_eq_true] at h ⊢
    exact ⟨flat_V r h.1, flats_V t h.2⟩
theorem eqV_eqv {K : PySem.W.Frag} {a b : D} {v w : V} (ra : Rp K m v a) (rb : Rp K m w b) (ha : flat a = true) (hb : flat b = true) : eqV v w = a.eqv b := by
  cases ra with
  | non => cases rb with
    | non => rfl
    | bl _ => rfl
    | int _ => rfl
    | str _ => rfl
    | _ => cases hb
  | bl x => cases rb with
    | non => rfl
    | bl _ => rfl
    | int _ => rfl
    | str _ => rfl
    | _ => cases hb
  | int x => cases rb with
    | non => rfl
    | bl _ => rfl
    | int _ => rfl
    | str _ => rfl
    | _ => cases hb
  | str x => cases rb with
    | non => rfl
    | bl _ => rfl
    | int _ => rfl
    | str y =>
      show (cs x == cs y) = (x == y)
      exact cs_beq x y
    | _ => cases hb
  | _ => cases ha
theorem inV_any {K : PySem.W.Frag} {a : D} {v : V} (ra : Rp K m v a) (ha : flat a = true) : ∀ {xs : List V} {ds : List D}, Rps K m xs ds → ds.all flat = true → inV v xs = ds.any fun d => d.eqv a
  | _, _, .nil, _ => rfl
  | _, _, .cons r t, h => by
    rw [List.all_cons, Bool.and_eq_true] at h
    have ih := inV_any ra ha t h.2
    unfold inV at ih ⊢
    rw [List.any_cons, List.any_cons, ih, eqV_eqv r ra h.1 ha]
/-- in, by what the machine says; neg: not in -/
theorem op_in_gen (neg : Bool) {cop : CmpOp} (hu : X.A.units + 64 < cLine) (o1 : OpR X (compareOp cop) (rIn X.K neg))
    (o2 : OpR X (compareOp cop) (fun x y H Q => ∃ (c : Nat) (z : PySem.Str), x = .str ⟨#[c]⟩ ∧ y = .str z ∧ Q (.bl (if neg then !decide (c ∈ z.cps.toList) else decide (c ∈ z.cps.toList))) H))
    (o3 : OpR X (compareOp cop) (fun x y H Q => ∃ a o, y = .ref a ∧ DGet H a x o ∧ Q (.bl (if neg then !o.isSome else o.isSome)) H)) :
    OpR X (compareOp cop) (r2 X fun a b μ => match inD μ a b with
      | some c => .ok (.bl (if neg then !c else c)) μ
      | none => .bad) := by
  intro pins s σ H x y v u Q I rx ry ⟨m, μ, a, b, rel, ra, rb, post⟩
  have seq : ∀ {p : Addr} {xs : List V} {ds : List D}, y = .ref p → (SqL X.K H p xs ∨ SqT X.K H p xs) → Rps X.K m xs ds → (inD μ a b = if flat a && ds.all flat then some (ds.any fun d => d.eqv a) else none) → wpAny (model X.prog X.w) X.A (compareOp cop v u) (EP X pins σ Q) X.xe s := fun {p xs ds} e h1 h2 h3 => by
    by_cases c : (flat a && ds.all flat) = true
    · rw [if_pos c] at h3
      rw [Bool.and_eq_true] at c
      simp only [h3] at post
      refine o1 pins s σ H x y v u Q I rx ry ⟨p, xs, e, h1, flat_V ra c.1, flats_V h2 c.2, ?_⟩
      rw [inV_any ra c.1 h2 c.2]
      exact post.give rel (.bl _)
    · rw [if_neg c] at h3
      simp only [h3] at post
      exact post.elim
  cases b with
  | str z => cases a with
    | str w =>
      cases w with
      | nil => exact post.elim
      | cons c w => cases w with
        | nil =>
          cases ra; cases rb
          refine o2 pins s σ H _ _ v u Q I rx ry ⟨c.toNat, cs z, rfl, rfl, ?_⟩
          have e : decide (c.toNat ∈ (cs z).cps.toList) = z.contains c := by
            rw [cs_cps, Bool.eq_iff_iff, decide_eq_true_eq, List.contains_iff_mem, List.mem_map]
            exact ⟨fun ⟨d, h1, h2⟩ => by rw [← charNat_inj h2]; exact h1, fun h => ⟨c, h, rfl⟩⟩
          rw [e]
          exact post.give rel (.bl _)
        | cons _ _ => exact post.elim
    | _ => exact post.elim
  | tup ds =>
    obtain ⟨p, xs, e, h1, h2⟩ := rel.getT rb
    exact seq e (.inr h1) h2 rfl
  | lst ds =>
    obtain ⟨p, xs, e, h1, h2⟩ := rel.getL rb rfl
    exact seq e (.inl h1.l) h2 rfl
  | ref k =>
    cases e : μ[k]? with
    | none => simp only [inD, e] at post; exact post.elim
    | some c =>
      obtain ⟨p, ep, hk, cc⟩ := rel.at_ rb e
      cases c with
      | lst ds =>
        obtain ⟨xs, h1, _, h3⟩ := cc
        exact seq ep (.inl (SqL.of h1)) h3 (by simp only [inD, e])
      | fz ds =>
        obtain ⟨xs, h1, h3⟩ := cc
        exact seq ep (.inl (SqL.of (rel.fzH _ _ h1))) h3 (by simp only [inD, e])
      | dict kvs =>
        obtain ⟨ys, h1, _, h3⟩ := cc
        cases ek : keyOf a with
        | none => simp only [inD, e, ek] at post; exact post.elim
        | some q =>
          simp only [inD, e, ek] at post
          have ev := keyOf_V ra ek
          refine o3 pins s σ H x y v u Q I rx ry ⟨p, valV ys (kk q), ep, by rw [ev]; exact DGet.k h1, ?_⟩
          have g := kGet_valV q h3
          have hs : (valV ys (kk q)).isSome = (kGet q kvs).isSome := by
            cases eg : kGet q kvs with
            | none => rw [eg] at g; rw [show valV ys (kk q) = none from g]; rfl
            | some d => rw [eg] at g; obtain ⟨w, g1, _⟩ := g; rw [g1]; rfl
          rw [hs]
          exact post.give rel (.bl _)
      | obj _ _ => simp only [inD, e] at post; exact post.elim
  | _ => exact post.elim
theorem op_isin' (hu : X.A.units + 64 < cLine) : OpR X (compareOp .In) (r2 X (cmpR .isin)) := by
  intro pins s σ H x y v u Q I rx ry ⟨m, μ, a, b, rel, ra, rb, post⟩
  refine op_in_gen false hu op_in_seq (fun pins s σ H x y v u Q I rx ry ⟨c, z, e1, e2, q⟩ => op_in_sign pins s σ H x y v u Q I rx ry ⟨c, z, e1, e2, q⟩)
    (fun pins s σ H x y v u Q I rx ry ⟨a, o, e1, g, q⟩ => ?_) pins s σ H x y v u Q I rx ry ⟨m, μ, a, b, rel, ra, rb, ?_⟩
  · subst e1
    cases ry
    exact d_in (by omega) I g rx fun s3 I3 => ⟨.bl o.isSome, H, I3, rfl, q⟩
  · unfold cmpR cmpD at post
    show Post X (fun _ _ _ _ => False) m H (match inD μ a b with
      | some c => .ok (.bl (if false = true then !c else c)) μ
      | none => .bad) fun d _ m' H' => ∀ v, Rp X.K m' v d → Q v H'
    cases e : inD μ a b with
    | none => rw [e] at post; exact post.elim
    | some c => rw [e] at post; exact post
theorem op_notin' (hu : X.A.units + 64 < cLine) : OpR X (compareOp .NotIn) (r2 X (cmpR .notin)) := by
  intro pins s σ H x y v u Q I rx ry ⟨m, μ, a, b, rel, ra, rb, post⟩
  refine op_in_gen true hu op_notIn_seq (fun pins s σ H x y v u Q I rx ry ⟨c, z, e1, e2, q⟩ => op_notIn_sign pins s σ H x y v u Q I rx ry ⟨c, z, e1, e2, q⟩)
    (fun pins s σ H x y v u Q I rx ry ⟨a, o, e1, g, q⟩ => ?_) pins s σ H x y v u Q I rx ry ⟨m, μ, a, b, rel, ra, rb, ?_⟩
  · subst e1
    cases ry
    exact d_notIn (by omega) I g rx fun s3 I3 => ⟨.bl (!o.isSome), H, I3, rfl, q⟩
  · unfold cmpR cmpD at post
    show Post X (fun _ _ _ _ => False) m H (match inD μ a b with
      | some c => .ok (.bl (if true = true then !c else c)) μ
      | none => .bad) fun d _ m' H' => ∀ v, Rp X.K m' v d → Q v H'
    cases e : inD μ a b with
    | none => rw [e] at post; exact post.elim
    | some c => rw [e] at post; exact post
/-- any comparison -/
def copOf : Cmp → CmpOp
  | .eq => .Eq
  | .ne => .NotEq
  | .lt => .Lt
  | .le => .LtE
  | .gt => .Gt
  | .ge => .GtE
  | .isin => .In
  | .notin => .NotIn
  | .isnone => .Is
  | .notnone => .IsNot
theorem op_cmp (hu : X.A.units + 64 < cLine) : ∀ op : Cmp, OpR X (compareOp (copOf op)) (r2 X (cmpR op))
  | .eq => op_eq' hu
  | .ne => op_ne' hu
  | .lt => op_lt'
  | .le => op_le'
  | .gt => op_gt'
  | .ge => op_ge'
  | .isin => op_isin' hu
  | .notin => op_notin' hu
  | .isnone => op_isnone'
  | .notnone => op_notnone'
def opOf : Op → Operator
  | .add => .Add
  | .sub => .Sub
  | .mul => .Mult
  | .fdiv => .FloorDiv
  | .mod => .Mod
  | .pow => .Pow
  | .band => .BitAnd
theorem op_bin : ∀ op : Op, OpR X (binaryOp (opOf op)) (r2 X (bin op))
  | .add => op_add'
  | .sub => op_sub'
  | .mul => op_mul'
  | .fdiv => op_fdiv'
  | .mod => op_mod'
  | .pow => op_pow'
  | .band => op_band'
theorem un_neg' : UnR X (unaryOp .USub) (r1 X neg) := by
  intro pins s σ H x v Q I rx ⟨m, μ, a, rel, ra, post⟩
  cases a with
  | int i =>
    cases ra
    exact un_neg pins s σ H _ v Q I rx ⟨i, rfl, post.give rel (.int _)⟩
  | _ => exact post.elim
/-! ### truth -/
theorem tru_of {d : D} {v : V} {b : Bool} (rel : RelM X m H μ) (r : Rp X.K m v d) (h : truth μ d = some b) : TruV X.K v H b := by
  cases d with
  | non => cases r; exact (Option.some.inj h).symm
  | bl c => cases r; exact (Option.some.inj h).symm
  | int i => cases r; exact (Option.some.inj h).symm
  | str x =>
    cases r with
    | str _ hx =>
    refine ⟨by rw [cs_len, ← line_eq]; exact hx, ?_⟩
    rw [← Option.some.inj h, cs_len]
    cases x with
    | nil => rfl
    | cons a x =>
      show true = (((x.length + 1 : Nat) : Int) != 0)
      symm
      rw [bne_iff_ne]
      omega
  | tup ds =>
    obtain ⟨p, xs, rfl, h1, h2⟩ := rel.getT r
    refine .inr (.inl ⟨xs, h1, ?_⟩)
    rw [← Option.some.inj h]
    cases h2 <;> rfl
  | lst ds =>
    obtain ⟨p, xs, rfl, h1, h2⟩ := rel.getL r rfl
    refine .inl ⟨xs, h1.l, ?_⟩
    rw [← Option.some.inj h]
    cases h2 <;> rfl
  | ref k =>
    cases e : μ[k]? with
    | none => simp [truth, e] at h
    | some c =>
      obtain ⟨p, rfl, hk, cc⟩ := rel.at_ r e
      cases c with
      | lst ds =>
        obtain ⟨xs, h1, _, h3⟩ := cc
        simp only [truth, e, Option.some.injEq] at h
        refine .inl ⟨xs, SqL.of h1, ?_⟩
        rw [← h]
        cases h3 <;> rfl
      | fz ds =>
        obtain ⟨xs, h1, h3⟩ := cc
        simp only [truth, e, Option.some.injEq] at h
        refine .inl ⟨xs, SqL.of (rel.fzH _ _ h1), ?_⟩
        rw [← h]
        cases h3 <;> rfl
      | dict kvs =>
        obtain ⟨ys, h1, _, h3⟩ := cc
        simp only [truth, e, Option.some.injEq] at h
        refine .inr (.inr ⟨ys, h1, ?_⟩)
        rw [← h]
        cases h3 <;> rfl
      | obj _ _ => simp [truth, e] at h
end
end G
/-! The G machine over the hand layer: places, slices, built-in functions and methods. -/
set_option Elab.async false
set_option linter.all false
set_option maxRecDepth 100000
namespace G
open PySem PySem.Spec L2 PyProof.Rows
section
variable {X : Cx} {m : Mp} {H : Hp} {μ : Mem}
theorem place_ix (i : Int) (n : Nat) : place i n = ixN n i := by
  unfold place ixN
  by_cases h : 0 ≤ i
  · rw [if_pos h, if_pos h]
  · rw [if_neg h, if_neg h]
    by_cases h2 : 0 ≤ i + n
    · rw [if_pos h2, if_pos (by omega)]
    · rw [if_neg h2, if_neg (by omega)]
theorem Rps.at_ {K : PySem.W.Frag} {xs : List V} {ds : List D} {i : Int} {d : D} (r : Rps K m xs ds) (h : G.at_ ds i = some d) : ∃ v, atI xs i = some v ∧ Rp K m v d := by
  unfold G.at_ at h
  unfold atI
  rw [← r.len, place_ix] at h
  cases e : ixN xs.length i with
  | none => rw [e] at h; cases h
  | some k =>
    rw [e] at h
    exact r.get h
theorem cs_one (c : Char) : cs [c] = (⟨#[c.toNat]⟩ : PySem.Str) := rfl
theorem ix_item (hu : X.A.units + 64 < cLine) : IxR X (r2 X item) := by
  intro value slice pins s σ H x y v u Q I rx ry ⟨m, μ, a, b, rel, ra, rb, post⟩ hs
  have seq : ∀ {p : Addr} {xs : List V} {ds : List D}, x = .ref p → (SqL X.K H p xs ∨ SqT X.K H p xs) → Rps X.K m xs ds → (Post X (fun _ _ _ _ => False) m H (itemL ds b μ) fun d _ m' H' => ∀ v, Rp X.K m' v d → Q v H') → wpAny (model X.prog X.w) X.A (subscriptTail value slice v u) (EP X pins σ Q) X.xe s := fun {p xs ds} e h1 h2 post => by
    cases b with
    | int i =>
      cases ea : G.at_ ds i with
      | none => simp only [itemL, ea] at post; exact post.elim
      | some d =>
        simp only [itemL, ea] at post
        obtain ⟨w, e1, rw'⟩ := h2.at_ ea
        cases rb
        rcases h1 with h1 | h1
        · exact ix_list value slice pins s σ H x _ v u Q I rx ry ⟨p, xs, i, w, e, rfl, h1, e1, post.give rel rw'⟩ hs
        · exact ix_tup value slice pins s σ H x _ v u Q I rx ry ⟨p, xs, i, w, e, rfl, h1, e1, post.give rel rw'⟩ hs
    | _ => exact post.elim
  cases a with
  | str z =>
    cases ra with
    | str _ hz =>
    cases b with
    | int i =>
      cases ea : G.at_ z i with
      | none => simp only [item, ea] at post; exact post.elim
      | some c =>
        simp only [item, ea] at post
        cases rb
        refine ix_str value slice pins s σ H _ _ v u Q I rx ry ⟨cs z, i, c.toNat, rfl, rfl, by rw [cs_len, ← line_eq]; exact hz, ?_, ?_⟩ hs
        · unfold G.at_ at ea
          unfold atI
          rw [cs_cps, List.length_map, ← place_ix]
          cases ep : place i z.length with
          | none => rw [ep] at ea; cases ea
          | some k =>
            rw [ep] at ea
            show (z.map Char.toNat)[k]? = some c.toNat
            rw [List.getElem?_map, show z[k]? = some c from ea]
            rfl
        · rw [← cs_one]
          exact post.give rel (.str _ (by show 1 ≤ line; decide))
    | _ => exact post.elim
  | tup ds =>
    obtain ⟨p, xs, e, h1, h2⟩ := rel.getT ra
    exact seq e (.inr h1) h2 post
  | lst ds =>
    obtain ⟨p, xs, e, h1, h2⟩ := rel.getL ra rfl
    exact seq e (.inl h1.l) h2 post
  | ref k =>
    cases e : μ[k]? with
    | none => simp only [item, e] at post; exact post.elim
    | some c =>
      obtain ⟨p, ep, hk, cc⟩ := rel.at_ ra e
      cases c with
      | lst ds =>
        obtain ⟨xs, h1, _, h3⟩ := cc
        simp only [item, e] at post
        exact seq ep (.inl (SqL.of h1)) h3 post
      | fz ds =>
        obtain ⟨xs, h1, h3⟩ := cc
        simp only [item, e] at post
        exact seq ep (.inl (SqL.of (rel.fzH _ _ h1))) h3 post
      | dict kvs =>
        obtain ⟨ys, h1, _, h3⟩ := cc
        cases ek : keyOf b with
        | none => simp only [item, e, ek] at post; exact post.elim
        | some q =>
          cases eg : kGet q kvs with
          | none => simp only [item, e, ek, eg] at post; exact post.elim
          | some d =>
            simp only [item, e, ek, eg] at post
            have g := kGet_valV q h3
            rw [eg] at g
            obtain ⟨w, g1, g2⟩ := g
            have ey := keyOf_V rb ek
            subst ep
            cases rx
            have dg : DGet H p y (some w) := by
              rw [ey, ← g1]
              exact DGet.k h1
            exact tail_any (dict_typeIs I dg) PySem.F.slot_dict_getitem.lookup (d_getItem (by omega) I dg ry fun w' s3 I3 rw' => ⟨w, H, I3, rw', post.give rel g2⟩) hs
      | obj _ _ => simp only [item, e] at post; exact post.elim
  | _ => exact post.elim
/-! ### slices -/
def rS (X : Cx) : V → Option Int → Option Int → Hp → VK → Prop := fun x lo hi H Q => ∃ m μ a, RelM X m H μ ∧ Rp X.K m x a ∧ Post X (fun _ _ _ _ => False) m H (slice a lo hi μ) fun d _ m' H' => ∀ v, Rp X.K m' v d → Q v H'
theorem cut_map {α β : Type} (f : α → β) (xs : List α) (lo hi : Option Int) : cut (xs.map f) lo hi = (cut xs lo hi).map f := by
  unfold cut
  rw [List.length_map]
  simp only [← List.map_take, ← List.map_drop]
theorem cut_le {α : Type} (xs : List α) (lo hi : Option Int) : (cut xs lo hi).length ≤ xs.length := by
  unfold cut
  simp only [List.length_drop, List.length_take]
  omega
theorem cut_cutS (z : Tx) (lo hi : Option Int) : cutS (cs z) lo hi = cs (cut z lo hi) := by
  have h : (cs z).cps.toList = z.map Char.toNat := cs_cps z
  unfold cutS
  rw [h, cs_len]
  have e : ∀ (n : Nat) (i : Int), HT.sIx n 0 (some i) = bound n i ∧ HT.sIx n n (some i) = bound n i := fun n i => ⟨rfl, rfl⟩
  show (⟨(((z.map Char.toNat).drop (HT.sIx z.length 0 lo)).take (HT.sIx z.length z.length hi - HT.sIx z.length 0 lo)).toArray⟩ : PySem.Str) = ⟨((cut z lo hi).map Char.toNat).toArray⟩
  rw [← cut_map]
  congr 2
  unfold cut
  rw [List.length_map]
  cases lo with
  | none => cases hi with
    | none =>
      show ((z.map Char.toNat).drop 0).take (z.length - 0) = ((z.map Char.toNat).take z.length).drop 0
      simp
    | some j =>
      show ((z.map Char.toNat).drop 0).take (bound z.length j - 0) = ((z.map Char.toNat).take (bound z.length j)).drop 0
      simp
  | some i => cases hi with
    | none =>
      show ((z.map Char.toNat).drop (bound z.length i)).take (z.length - bound z.length i) = ((z.map Char.toNat).take z.length).drop (bound z.length i)
      rw [List.drop_take]
    | some j =>
      show ((z.map Char.toNat).drop (bound z.length i)).take (bound z.length j - bound z.length i) = ((z.map Char.toNat).take (bound z.length j)).drop (bound z.length i)
      rw [List.drop_take]
theorem whole_cut {α : Type} {xs : List α} {lo hi : Option Int} (h : HT.sIx xs.length 0 lo = 0 ∧ HT.sIx xs.length xs.length hi = xs.length) : cut xs lo hi = xs := by
  unfold cut
  cases lo with
  | none => cases hi with
    | none => simp
    | some j =>
      have h2 : bound xs.length j = xs.length := h.2
      simp [h2]
  | some i =>
    have h1 : bound xs.length i = 0 := h.1
    cases hi with
    | none => simp [h1]
    | some j =>
      have h2 : bound xs.length j = xs.length := h.2
      simp [h1, h2]
theorem sl_slice : SlR X (rS X) := by
  intro pins s σ H x v vl vu lo hi sl Q I rx hs pl pu ⟨m, μ, a, rel, ra, post⟩
  cases a with
  | str z =>
    cases ra with
    | str _ hz =>
    refine sl_str pins s σ H _ v vl vu lo hi sl Q I rx hs pl pu ⟨cs z, rfl, by rw [cs_len, ← line_eq]; exact hz, ?_⟩
    rw [cut_cutS]
    exact post.give rel (.str _ (Nat.le_trans (cut_le z lo hi) hz))
  | tup ds =>
    obtain ⟨p, xs, e, h1, h2⟩ := rel.getT ra
    subst e
    refine sl_tupA pins s σ H _ v vl vu lo hi sl Q I rx hs pl pu ⟨p, xs, rfl, h1, fun w => ?_, fun _ => ?_⟩
    · have w' := w
      rw [h2.len] at w'
      have post : Post X (fun _ _ _ _ => False) m H (.ok (.tup (cut ds lo hi)) μ) fun d _ m' H' => ∀ v, Rp X.K m' v d → Q v H' := post
      rw [whole_cut w'] at post
      exact post.give rel ra
    · rw [cut_cutV]
      exact post.newT rel (h2.cut lo hi)
  | lst ds =>
    obtain ⟨p, xs, e, h1, h2⟩ := rel.getL ra rfl
    refine sl_list pins s σ H x v vl vu lo hi sl Q I rx hs pl pu ⟨p, xs, e, h1.l, ?_⟩
    rw [cut_cutV]
    exact post.newL rel (h2.cut lo hi)
  | ref k =>
    cases e : μ[k]? with
    | none => simp only [slice, e] at post; exact post.elim
    | some c =>
      obtain ⟨p, ep, hk, cc⟩ := rel.at_ ra e
      cases c with
      | lst ds =>
        obtain ⟨xs, h1, _, h3⟩ := cc
        simp only [slice, e] at post
        refine sl_list pins s σ H x v vl vu lo hi sl Q I rx hs pl pu ⟨p, xs, ep, SqL.of h1, ?_⟩
        rw [cut_cutV]
        exact post.newL rel (h3.cut lo hi)
      | fz ds =>
        obtain ⟨xs, h1, h3⟩ := cc
        simp only [slice, e] at post
        refine sl_list pins s σ H x v vl vu lo hi sl Q I rx hs pl pu ⟨p, xs, ep, SqL.of (rel.fzH _ _ h1), ?_⟩
        rw [cut_cutV]
        exact post.newL rel (h3.cut lo hi)
      | dict _ => simp only [slice, e] at post; exact post.elim
      | obj _ _ => simp only [slice, e] at post; exact post.elim
  | _ => exact post.elim
/-! ### built-in functions -/
/-- one argument -/
theorem call1 {f : Value} {g : D → Mem → R D} {b : D → Tx} {fn : B} (h : ∀ (pins : List (Addr × Obj)) (s : Shared) (σ : L2.St) (H : Hp) (x : V) (v : Value) (Q : VK), L2.Inv X pins σ H s → RelV x v → r1 X g x H Q → wpAny (model X.prog X.w) X.A (call f [v]) (EP X pins σ Q) X.xe s)
    (e : ∀ as μ, blt b fn as μ = match as with
      | [a] => g a μ
      | _ => .bad) : CallR X f (rN X (blt b fn)) := by
  intro pins s σ H xs us Q I rs ⟨m, μ, as, rel, ra, post⟩
  rw [e] at post
  cases ra with
  | nil => exact post.elim
  | cons r1 r2 => cases r2 with
    | nil =>
      obtain ⟨u, rfl, rx⟩ := vals1 rs
      exact h pins s σ H _ u Q I rx ⟨m, μ, _, rel, r1, post⟩
    | cons _ _ => exact post.elim
theorem c_len {b : D → Tx} : CallR X (.builtin "len") (rN X (blt b .len)) := by
  refine call1 (g := bLen) (fun pins s σ H x v Q I rx ⟨m, μ, a, rel, ra, post⟩ => ?_) fun as μ => by
    cases as with
    | nil => rfl
    | cons a as => cases as <;> rfl
  have seq : ∀ {p : Addr} {xs : List V} {ds : List D}, x = .ref p → (SqL X.K H p xs ∨ SqT X.K H p xs) → Rps X.K m xs ds → (Post X (fun _ _ _ _ => False) m H (.ok (.int ds.length) μ) fun d _ m' H' => ∀ v, Rp X.K m' v d → Q v H') → wpAny (model X.prog X.w) X.A (call (.builtin "len") [v]) (EP X pins σ Q) X.xe s := fun {p xs ds} e h1 h2 post => by
    subst e
    refine call_len_seq pins s σ H _ _ Q I (.cons rx .nil) ⟨p, xs, rfl, h1, ?_⟩
    rw [h2.len]
    exact post.give rel (.int _)
  cases a with
  | str z =>
    cases ra with
    | str _ hz =>
    refine call_len_str pins s σ H _ _ Q I (.cons rx .nil) ⟨cs z, rfl, by rw [cs_len, ← line_eq]; exact hz, ?_⟩
    rw [cs_len]
    exact post.give rel (.int _)
  | tup ds =>
    obtain ⟨p, xs, e, h1, h2⟩ := rel.getT ra
    exact seq e (.inr h1) h2 post
  | lst ds =>
    obtain ⟨p, xs, e, h1, h2⟩ := rel.getL ra rfl
    exact seq e (.inl h1.l) h2 post
  | ref k =>
    cases e : μ[k]? with
    | none => simp only [bLen, e] at post; exact post.elim
    | some c =>
      obtain ⟨p, ep, hk, cc⟩ := rel.at_ ra e
      cases c with
      | lst ds =>
        obtain ⟨xs, h1, _, h3⟩ := cc
        simp only [bLen, e] at post
        exact seq ep (.inl (SqL.of h1)) h3 post
      | fz ds =>
        obtain ⟨xs, h1, h3⟩ := cc
        simp only [bLen, e] at post
        exact seq ep (.inl (SqL.of (rel.fzH _ _ h1))) h3 post
      | dict kvs =>
        obtain ⟨ys, h1, _, h3⟩ := cc
        simp only [bLen, e] at post
        subst ep
        cases rx
        refine d_len I (.inl h1) fun t s' I' => ⟨.int ys.length, H, I', ⟨t, rfl⟩, ?_⟩
        have : ys.length = kvs.length := Paired.length h3
        rw [this]
        exact post.give rel (.int _)
      | obj _ _ => simp only [bLen, e] at post; exact post.elim
  | _ => exact post.elim
theorem c_int {b : D → Tx} : CallR X (.type "int") (rN X (blt b .int)) := by
  refine call1 (g := bInt) (fun pins s σ H x v Q I rx ⟨m, μ, a, rel, ra, post⟩ => ?_) fun as μ => by
    cases as with
    | nil => rfl
    | cons a as => cases as <;> rfl
  cases a with
  | int i => cases ra; exact call_int1 pins s σ H _ _ Q I (.cons rx .nil) (.inl ⟨i, rfl, post.give rel (.int _)⟩)
  | bl k => cases ra; exact call_int1 pins s σ H _ _ Q I (.cons rx .nil) (.inr ⟨k, rfl, post.give rel (.int _)⟩)
  | _ => exact post.elim
theorem fits_log {i : Int} (h : fits i = true) : i.natAbs.log2 < 1920 := by
  have h : i.natAbs < 2 ^ 1900 := of_decide_eq_true h
  by_cases h0 : i.natAbs = 0
  · rw [h0]; decide
  · exact Nat.lt_of_lt_of_le ((Nat.log2_lt h0).mpr h) (by decide)
theorem textI_len {i : Int} (h : fits i = true) : (textI i).length ≤ line := by
  have := PySem.int_text_fits (a := i) (fits_log h)
  rw [ofString_cs, cs_len, ← line_eq] at this
  exact this
theorem c_str {b : D → Tx} : CallR X (.type "str") (rN X (blt b .str)) := by
  refine call1 (g := bStr) (fun pins s σ H x v Q I rx ⟨m, μ, a, rel, ra, post⟩ => ?_) fun as μ => by
    cases as with
    | nil => rfl
    | cons a as => cases as <;> rfl
  cases a with
  | int i =>
    by_cases h : fits i = true
    · simp only [bStr, if_pos h] at post
      cases ra
      refine call_str_int pins s σ H _ _ Q I (.cons rx .nil) ⟨i, rfl, fits_log h, ?_⟩
      show Q (.str (PySem.Str.ofString (toString i))) H
      rw [ofString_cs]
      exact post.give rel (.str _ (textI_len h))
    · simp only [bStr, if_neg h] at post
      exact post.elim
  | str z =>
    cases ra with
    | str _ hz => exact SkE.call_str_str pins s σ H _ _ Q I (.cons rx .nil) ⟨cs z, rfl, post.give rel (.str _ hz)⟩
  | _ => exact post.elim
theorem c_bool {b : D → Tx} : CallR X (.type "bool") (rN X (blt b .bool)) := by
  refine call1 (g := bBool) (fun pins s σ H x v Q I rx ⟨m, μ, a, rel, ra, post⟩ => ?_) fun as μ => by
    cases as with
    | nil => rfl
    | cons a as => cases as <;> rfl
  cases a with
  | int i => cases ra; exact call_bool1 pins s σ H _ _ Q I (.cons rx .nil) (.inl ⟨i, rfl, post.give rel (.bl _)⟩)
  | bl k => cases ra; exact call_bool1 pins s σ H _ _ Q I (.cons rx .nil) (.inr ⟨k, rfl, post.give rel (.bl _)⟩)
  | _ => exact post.elim
theorem c_abs {b : D → Tx} : CallR X (.builtin "abs") (rN X (blt b .abs)) := by
  refine call1 (g := bAbs) (fun pins s σ H x v Q I rx ⟨m, μ, a, rel, ra, post⟩ => ?_) fun as μ => by
    cases as with
    | nil => rfl
    | cons a as => cases as <;> rfl
  cases a with
  | int i => cases ra; exact call_abs pins s σ H _ _ Q I (.cons rx .nil) ⟨i, rfl, post.give rel (.int _)⟩
  | _ => exact post.elim
theorem keys_map {K : PySem.W.Frag} : ∀ {ys : List (L2.Key × V)} {kvs : List (Key × D)}, KRp K m ys kvs → Rps K m (ys.map fun kv => kV kv.1) (kvs.map fun p => keyD p.1)
  | _, _, .nil => .nil
  | (a, v) :: ys, (k, d) :: kvs, .cons ⟨r1, r3, r2⟩ t => by
    have r1 : a = kk k := r1
    subst r1
    refine .cons ?_ (keys_map t)
    cases k with
    | inl i => exact .int i
    | inr x => exact .str x r3
theorem keyOf_B {K : PySem.W.Frag} {a : D} {v : V} {k : Key} (r : Rp K m v a) (h : keyOf a = some k) : keyB k := by
  cases a with
  | int i =>
    cases h
    trivial
  | str x =>
    cases r with
    | str _ hx =>
    cases h
    exact hx
  | _ => cases h
theorem c_list {b : D → Tx} (hc : X.calm = true) : CallR X (.type "list") (rN X (blt b .list)) := by
  refine call1 (g := bList) (fun pins s σ H x v Q I rx ⟨m, μ, a, rel, ra, post⟩ => ?_) fun as μ => by
    cases as with
    | nil => rfl
    | cons a as => cases as <;> rfl
  cases e : getS μ a with
  | some ds =>
    simp only [bList, e] at post
    obtain ⟨p, xs, ep, h1, h2⟩ := rel.getS ra e
    subst ep
    exact call_list_of pins s σ H _ _ Q I (.cons rx .nil) ⟨p, xs, rfl, h1, post.newL rel h2⟩
  | none =>
    simp only [bList, e] at post
    cases a with
    | ref k =>
      cases e2 : μ[k]? with
      | none => simp only [e2] at post; exact post.elim
      | some c =>
        obtain ⟨p, ep, hk, cc⟩ := rel.at_ ra e2
        cases c with
        | dict kvs =>
          obtain ⟨ys, h1, _, h3⟩ := cc
          simp only [e2] at post
          subst ep
          exact call_listD hc pins s σ H _ _ Q I (.cons rx .nil) ⟨p, ys, rfl, .inl h1, post.newL rel (keys_map h3)⟩
        | _ => simp only [e2] at post; exact post.elim
    | _ => exact post.elim
theorem c_tuple {b : D → Tx} : CallR X (.type "tuple") (rN X (blt b .tuple)) := by
  refine call1 (g := bTuple) (fun pins s σ H x v Q I rx ⟨m, μ, a, rel, ra, post⟩ => ?_) fun as μ => by
    cases as with
    | nil => rfl
    | cons a as => cases as <;> rfl
  cases a with
  | tup ds =>
    obtain ⟨p, xs, e, h1, h2⟩ := rel.getT ra
    subst e
    exact call_tuple_of pins s σ H _ _ Q I (.cons rx .nil) ⟨p, xs, rfl, .inr ⟨h1, post.give rel ra⟩⟩
  | lst ds =>
    obtain ⟨p, xs, e, h1, h2⟩ := rel.getL ra rfl
    subst e
    exact call_tuple_of pins s σ H _ _ Q I (.cons rx .nil) ⟨p, xs, rfl, .inl ⟨h1.l, post.newT rel h2⟩⟩
  | ref k =>
    cases e : μ[k]? with
    | none => simp only [bTuple, e] at post; exact post.elim
    | some c =>
      obtain ⟨p, ep, hk, cc⟩ := rel.at_ ra e
      cases c with
      | lst ds =>
        obtain ⟨xs, h1, _, h3⟩ := cc
        simp only [bTuple, e] at post
        subst ep
        exact call_tuple_of pins s σ H _ _ Q I (.cons rx .nil) ⟨p, xs, rfl, .inl ⟨SqL.of h1, post.newT rel h3⟩⟩
      | fz ds =>
        obtain ⟨xs, h1, h3⟩ := cc
        simp only [bTuple, e] at post
        subst ep
        exact call_tuple_of pins s σ H _ _ Q I (.cons rx .nil) ⟨p, xs, rfl, .inl ⟨SqL.of (rel.fzH _ _ h1), post.newT rel h3⟩⟩
      | dict _ => simp only [bTuple, e] at post; exact post.elim
      | obj _ _ => simp only [bTuple, e] at post; exact post.elim
  | _ => exact post.elim
/-- a new dict -/
theorem PostG.newD {m : Mp} {H : Hp} {μ : Mem} {kvs : List (Key × D)} {ys : List (L2.Key × V)} {Q : VK} {Xc : String → Mem → Mp → Hp → Prop} (rel : RelM X m H μ) (h : Post X Xc m H (.ok (.ref μ.length) (μ ++ [.dict kvs])) fun d _ m' H' => ∀ v, Rp X.K m' v d → Q v H') (r : KRp X.K m ys kvs) :
    ∀ p, H p = none → Q (.ref p) (upd H p (.dK ys)) := fun p hp => by
  have hf : m.fz p = none := by
    cases e : m.fz p with
    | none => rfl
    | some q => rw [rel.fzH _ _ e] at hp; cases hp
  have l : Le m (m.add μ.length p) := ⟨fun k b h => by
    have := rel.top k b h
    show (if k = μ.length then some p else m.al k) = some b
    rw [if_neg (by omega)]
    exact h, fun _ _ h => h⟩
  obtain ⟨q1, q2⟩ := rel.new (c := .dict kvs) hp ⟨ys, upd_same, hf, Paired.imp r fun _ _ q => ⟨q.1, q.2.1, q.2.2.mono l⟩⟩
  exact h _ _ q2 q1 _ (.ref (if_pos rfl))
theorem c_dict {b : D → Tx} : CallR X (.type "dict") (rN X (blt b .dict)) := by
  refine call1 (g := bDict) (fun pins s σ H x v Q I rx ⟨m, μ, a, rel, ra, post⟩ => ?_) fun as μ => by
    cases as with
    | nil => rfl
    | cons a as => cases as <;> rfl
  cases a with
  | ref k =>
    cases e : μ[k]? with
    | none => simp only [bDict, e] at post; exact post.elim
    | some c =>
      obtain ⟨p, ep, hk, cc⟩ := rel.at_ ra e
      cases c with
      | dict kvs =>
        obtain ⟨ys, h1, _, h3⟩ := cc
        simp only [bDict, e] at post
        subst ep
        exact call_dictD pins s σ H _ _ Q I (.cons rx .nil) ⟨p, ys, rfl, .inl h1, post.newD rel h3⟩
      | _ => simp only [bDict, e] at post; exact post.elim
  | _ => exact post.elim
/-- of a list of ints -/
theorem ints_of {f : Value} {h : List Int → Option Int} {Q : VK} {a : D} {x : V} (rel : RelM X m H μ) (ra : Rp X.K m x a) (post : Post X (fun _ _ _ _ => False) m H (bInts h a μ) fun d _ m' H' => ∀ v, Rp X.K m' v d → Q v H') :
    ∃ p ns n, x = .ref p ∧ SqL X.K H p (ns.map V.int) ∧ h ns = some n ∧ Q (.int n) H := by
  cases e : getL μ a with
  | none => simp only [bInts, e] at post; exact post.elim
  | some ds =>
    cases e2 : intsOf ds with
    | none => simp only [bInts, e, e2] at post; exact post.elim
    | some ns =>
      cases e3 : h ns with
      | none => simp only [bInts, e, e2, e3] at post; exact post.elim
      | some n =>
        simp only [bInts, e, e2, e3] at post
        obtain ⟨p, xs, ep, h1, h2⟩ := rel.getL ra e
        obtain ⟨q1, _⟩ := h2.ints e2
        exact ⟨p, ns, n, ep, by rw [← q1]; exact h1.l, e3, post.give rel (.int _)⟩
theorem c_sum {b : D → Tx} (hc : X.calm = true) : CallR X (.builtin "sum") (rN X (blt b .sum)) := by
  refine call1 (g := bInts fun ns => some ns.sum) (fun pins s σ H x v Q I rx ⟨m, μ, a, rel, ra, post⟩ => ?_) fun as μ => by
    cases as with
    | nil => rfl
    | cons a as => cases as <;> rfl
  obtain ⟨p, ns, n, rfl, h1, h2, q⟩ := ints_of (f := v) rel ra post
  refine cr_sum hc pins s σ H _ _ Q I (.cons rx .nil) ⟨p, ns, rfl, h1, ?_⟩
  rw [Option.some.inj h2]
  exact q
theorem maxI_of {ns : List Int} {n : Int} (h : maxI ns = some n) : 0 < ns.length ∧ ∀ k, k ∈ ns → (∀ y ∈ ns, y ≤ k) → k = n := by
  cases ns with
  | nil => cases h
  | cons a r =>
    have e : r.foldl max a = n := Option.some.inj h
    refine ⟨Nat.succ_pos _, fun k hk hm => ?_⟩
    have up : ∀ (r : List Int) (a : Int), a ≤ r.foldl max a ∧ (∀ y ∈ r, y ≤ r.foldl max a) ∧ (r.foldl max a = a ∨ r.foldl max a ∈ r) := fun r => by
      induction r with
      | nil => exact fun a => ⟨Int.le_refl _, (fun _ h => nomatch h), .inl rfl⟩
      | cons b r ih =>
        intro a
        obtain ⟨i1, i2, i3⟩ := ih (max a b)
        rw [List.foldl_cons]
        refine ⟨by omega, fun y hy => ?_, ?_⟩
        · rcases List.mem_cons.mp hy with rfl | hy
          · omega
          · exact i2 y hy
        · rcases i3 with i3 | i3
          · rw [i3]
            by_cases c : a ≤ b
            · right
              rw [Int.max_eq_right c]
              exact List.mem_cons_self
            · left
              rw [Int.max_eq_left (by omega)]
          · exact .inr (List.mem_cons_of_mem _ i3)
    obtain ⟨u1, u2, u3⟩ := up r a
    rw [e] at u1 u2 u3
    have h1 : k ≤ n := by
      rcases List.mem_cons.mp hk with rfl | hk
      · exact u1
      · exact u2 k hk
    have h2 : n ≤ k := by
      rcases u3 with u3 | u3
      · rw [u3]; exact hm a List.mem_cons_self
      · exact hm n (List.mem_cons_of_mem _ u3)
    omega
theorem minI_of {ns : List Int} {n : Int} (h : minI ns = some n) : 0 < ns.length ∧ ∀ k, k ∈ ns → (∀ y ∈ ns, k ≤ y) → k = n := by
  cases ns with
  | nil => cases h
  | cons a r =>
    have e : r.foldl min a = n := Option.some.inj h
    refine ⟨Nat.succ_pos _, fun k hk hm => ?_⟩
    have up : ∀ (r : List Int) (a : Int), r.foldl min a ≤ a ∧ (∀ y ∈ r, r.foldl min a ≤ y) ∧ (r.foldl min a = a ∨ r.foldl min a ∈ r) := fun r => by
      induction r with
      | nil => exact fun a => ⟨Int.le_refl _, (fun _ h => nomatch h), .inl rfl⟩
      | cons b r ih =>
        intro a
        obtain ⟨i1, i2, i3⟩ := ih (min a b)
        rw [List.foldl_cons]
        refine ⟨by omega, fun y hy => ?_, ?_⟩
        · rcases List.mem_cons.mp hy with rfl | hy
          · omega
          · exact i2 y hy
        · rcases i3 with i3 | i3
          · rw [i3]
            by_cases c : a ≤ b
            · left
              rw [Int.min_eq_left c]
            · right
              rw [Int.min_eq_right (by omega)]
              exact List.mem_cons_self
          · exact .inr (List.mem_cons_of_mem _ i3)
    obtain ⟨u1, u2, u3⟩ := up r a
    rw [e] at u1 u2 u3
    have h1 : n ≤ k := by
      rcases List.mem_cons.mp hk with rfl | hk
      · exact u1
      · exact u2 k hk
    have h2 : k ≤ n := by
      rcases u3 with u3 | u3
      · rw [u3]; exact hm a List.mem_cons_self
      · exact hm n (List.mem_cons_of_mem _ u3)
    omega
theorem c_max {b : D → Tx} (hc : X.calm = true) : CallR X (.builtin "max") (rN X (blt b .max)) := by
  intro pins s σ H xs us Q I rs ⟨m, μ, as, rel, ra, post⟩
  cases ra with
  | nil => exact post.elim
  | cons r1 r2 => cases r2 with
    | nil =>
      obtain ⟨p, ns, n, rfl, h1, h2, q⟩ := ints_of (f := .none) rel r1 post
      obtain ⟨g1, g2⟩ := maxI_of h2
      refine cr_max hc pins s σ H _ us Q I rs ⟨p, ns, rfl, h1, g1, fun k h3 h4 => ?_⟩
      rw [g2 k h3 h4]
      exact q
    | cons r3 r4 => cases r4 with
      | nil =>
        rename_i x d x2 d2
        cases d with
        | int i => cases d2 with
          | int j =>
            cases r1; cases r3
            exact call_max2 hc pins s σ H _ us Q I rs ⟨i, j, rfl, post.give rel (.int _)⟩
          | _ => exact post.elim
        | _ => exact post.elim
      | cons _ _ => exact post.elim
theorem c_min {b : D → Tx} (hc : X.calm = true) : CallR X (.builtin "min") (rN X (blt b .min)) := by
  intro pins s σ H xs us Q I rs ⟨m, μ, as, rel, ra, post⟩
  cases ra with
  | nil => exact post.elim
  | cons r1 r2 => cases r2 with
    | nil =>
      obtain ⟨p, ns, n, rfl, h1, h2, q⟩ := ints_of (f := .none) rel r1 post
      obtain ⟨g1, g2⟩ := minI_of h2
      refine cr_min hc pins s σ H _ us Q I rs ⟨p, ns, rfl, h1, g1, fun k h3 h4 => ?_⟩
      rw [g2 k h3 h4]
      exact q
    | cons r3 r4 => cases r4 with
      | nil =>
        rename_i x d x2 d2
        cases d with
        | int i => cases d2 with
          | int j =>
            cases r1; cases r3
            exact call_min2 hc pins s σ H _ us Q I rs ⟨i, j, rfl, post.give rel (.int _)⟩
          | _ => exact post.elim
        | _ => exact post.elim
      | cons _ _ => exact post.elim
theorem c_anyall {b : D → Tx} {f : Value} {fn : B} {g : List Bool → Bool} (h : CallR X f fun vs H Q => ∃ (a : Addr) (bs : List Bool), vs = [V.ref a] ∧ SqL X.K H a (bs.map V.bl) ∧ Q (.bl (g bs)) H) (e : ∀ as μ, blt b fn as μ = match as with
      | [a] => bBools g a μ
      | _ => .bad) : CallR X f (rN X (blt b fn)) := by
  refine call1 (g := bBools g) (fun pins s σ H x v Q I rx ⟨m, μ, a, rel, ra, post⟩ => ?_) e
  cases e : getL μ a with
  | none => simp only [bBools, e] at post; exact post.elim
  | some ds =>
    cases e2 : boolsOf ds with
    | none => simp only [bBools, e, e2] at post; exact post.elim
    | some ns =>
      simp only [bBools, e, e2] at post
      obtain ⟨p, xs, ep, h1, h2⟩ := rel.getL ra e
      subst ep
      exact h pins s σ H _ _ Q I (.cons rx .nil) ⟨p, ns, rfl, by rw [← h2.bools e2]; exact h1.l, post.give rel (.bl _)⟩
theorem c_any {b : D → Tx} (hc : X.calm = true) : CallR X (.builtin "any") (rN X (blt b .any)) := c_anyall (g := fun bs => bs.any id) (cr_any hc) fun as μ => by
  cases as with
  | nil => rfl
  | cons a as => cases as <;> rfl
theorem c_all {b : D → Tx} (hc : X.calm = true) : CallR X (.builtin "all") (rN X (blt b .all)) := c_anyall (g := fun bs => bs.all id) (cr_all hc) fun as μ => by
  cases as with
  | nil => rfl
  | cons a as => cases as <;> rfl
end
end G
/-! The G machine: a def's text to the machine's program. -/
set_option Elab.async false
set_option linter.all false
set_option maxRecDepth 100000
namespace G
open PySem PySem.Spec L2
/-- what the global names stand for -/
structure Tab where
  fns : List (PySem.Str × String)
  cls : List (PySem.Str × String)
  con : List (PySem.Str × D)
  mth : List PySem.Str
def txOf (x : PySem.Str) : Option Tx := if x.cps.toList.all (fun n => decide (n.isValidChar)) && decide (x.cps.toList.length ≤ line) then some (x.cps.toList.map Char.ofNat) else none
def isVis (sc : Scope) (x : PySem.Str) : Bool := match sc.names.lookup x with
  | some .local => true
  | some .cell => true
  | some .free => true
  | _ => false
def isLoc (sc : Scope) (x : PySem.Str) : Bool := match sc.names.lookup x with
  | some .local => true
  | some .cell => true
  | _ => false
def isGl (sc : Scope) (x : PySem.Str) : Bool := match sc.names.lookup x with
  | some .globalImplicit => true
  | _ => false
def odd (x : PySem.Str) : Bool := x == ("__debug__" : PySem.Str) || x == ("__classdict__" : PySem.Str) || x == ("__name__" : PySem.Str)
/-- a name's slot -/
def slotAt (x : PySem.Str) : List PySem.Str → Nat → Option Nat
  | [], _ => none
  | y :: ys, n => if y = x then some n else slotAt x ys (n + 1)
def cConst : Const → Option E
  | .none => some (.lit .non)
  | .bool b => some (.lit (.bl b))
  | .int i => some (.lit (.int i))
  | .str x => (txOf x).map fun t => .lit (.str t)
  | _ => none
def cName (T : Tab) (N : List PySem.Str) (sc : Scope) (x : PySem.Str) : Option E :=
  if odd x then none else if isVis sc x then (slotAt x N 0).map .var else if isGl sc x then (T.con.lookup x).map .lit else none
def cOp : Operator → Option Op
  | .Add => some .add
  | .Sub => some .sub
  | .Mult => some .mul
  | .FloorDiv => some .fdiv
  | .Mod => some .mod
  | .Pow => some .pow
  | .BitAnd => some .band
  | _ => none
def cAug : Operator → Option Op
  | .Add => some .add
  | .Sub => some .sub
  | _ => none
def cCop : CmpOp → Option Cmp
  | .Eq => some .eq
  | .NotEq => some .ne
  | .Lt => some .lt
  | .LtE => some .le
  | .Gt => some .gt
  | .GtE => some .ge
  | .In => some .isin
  | .NotIn => some .notin
  | .Is => some .isnone
  | .IsNot => some .notnone
/-- an expression that is no star, no display of a set, no slice -/
def plainE : Expr → Bool
  | .Starred _ _ => false
  | .Set _ _ _ => false
  | .Slice _ _ _ _ => false
  | _ => true
section
variable (r : Expr → Option E)
def cEs : List Expr → Option Es
  | [] => some .nil
  | e :: es => if plainE e then (match r e with
    | some i => (cEs es).map (.cons i)
    | none => none) else none
def cPs : List (Option Expr) → List Expr → Option Ps
  | [], [] => some .nil
  | some k :: ks, v :: vs => match r k, r v with
    | some a, some b => (cPs ks vs).map (.cons a b)
    | _, _ => none
  | _, _ => none
def cO : Option Expr → Option O
  | none => some .none
  | some e => (r e).map .some
def cBool (op : BoolOp) : List Expr → Option E
  | [] => none
  | [e] => r e
  | e :: es => match r e, cBool op es with
    | some a, some b => some (match op with
      | .And => .and a b
      | .Or => .or a b)
    | _, _ => none
def cCmp (a : Expr) : List CmpOp → List Expr → Option E
  | [op], [b] => if behindInMarks op b then none else match cCop op, r a, r b with
    | some o, some x, some y => some (.cmp o x y)
    | _, _, _ => none
  | [op, op'], [b, c] => if behindInMarks op b || behindInMarks op' c then none else match cCop op, cCop op', r a, r b, r c with
    | some o, some o', some x, some y, some z => some (.chain o o' x y z)
    | _, _, _, _, _ => none
  | _, _ => none
end
def bTab : List (PySem.Str × B) := [(("len" : PySem.Str), .len), (("int" : PySem.Str), .int), (("str" : PySem.Str), .str), (("bool" : PySem.Str), .bool), (("abs" : PySem.Str), .abs), (("list" : PySem.Str), .list), (("tuple" : PySem.Str), .tuple),
  (("dict" : PySem.Str), .dict), (("sorted" : PySem.Str), .sorted), (("sum" : PySem.Str), .sum), (("min" : PySem.Str), .min), (("max" : PySem.Str), .max), (("any" : PySem.Str), .any), (("all" : PySem.Str), .all)]
def tyTab : List (PySem.Str × Ty) := [(("int" : PySem.Str), .int), (("bool" : PySem.Str), .bool), (("str" : PySem.Str), .str), (("list" : PySem.Str), .list), (("tuple" : PySem.Str), .tuple)]
def mTab : List (PySem.Str × M) := [(("append" : PySem.Str), .append), (("pop" : PySem.Str), .pop), (("clear" : PySem.Str), .clear), (("index" : PySem.Str), .lindex), (("get" : PySem.Str), .get), (("join" : PySem.Str), .join)]
def tyName (sc : Scope) : Expr → Option Ty
  | .Name x _ => if isGl sc x then tyTab.lookup x else none
  | _ => none
/-- f(..) of a global name -/
def cCall (T : Tab) (sc : Scope) (r : Expr → Option E) (x : PySem.Str) (args : List Expr) : Option E :=
  if odd x || !isGl sc x then none else
  if x = ("isinstance" : PySem.Str) then (match args with
    | [a, t] => if plainE a then (match r a, tyName sc t with
      | some i, some ty => some (.isi i [ty])
      | _, _ => none) else none
    | _ => none) else
  match T.fns.lookup x with
  | some f => (cEs r args).map (.call f)
  | none => match T.cls.lookup x with
    | some c => (cEs r args).map (.new c)
    | none => match bTab.lookup x, args with
      | some b, _ :: _ => (cEs r args).map (.blt b)
      | _, _ => none
/-- o.m(..) -/
def cMeth (T : Tab) (r : Expr → Option E) (o : Expr) (m : PySem.Str) (args : List Expr) (lines : Bool) : Option E :=
  if T.mth.contains m then (match txOf m, r o, cEs r args with
    | some t, some i, some es => some (.meth i (String.ofList t) es)
    | _, _, _ => none)
  else if lines && decide (args.length < 30) then (match mTab.lookup m, r o, cEs r args with
    | some b, some i, some es => some (.bm i b es)
    | _, _, _ => none) else none
/-- no call without arguments stands here -/
def noSuper : Expr → Bool
  | .Call (.Name _ _) [] [] _ => false
  | _ => true
/-- targets -/
def cTs (rt : Expr → Option T) : List Expr → Option Ts
  | [] => some .nil
  | e :: es => if plainE e then (match rt e, cTs rt es with
    | some a, some b => some (.cons a b)
    | _, _ => none) else none
/-- targets of names alone -/
def cTn (N : List PySem.Str) (sc : Scope) : Nat → Expr → Option T
  | 0, _ => none
  | n + 1, e => match e with
    | .Name x _ => if isLoc sc x then (slotAt x N 0).map .name else none
    | .Tuple es _ _ => (cTs (cTn N sc n) es).map .tup
    | _ => none
def cTg (N : List PySem.Str) (sc : Scope) (r : Expr → Option E) : Nat → Expr → Option T
  | 0, _ => none
  | n + 1, e => match e with
    | .Name x _ => if isLoc sc x then (slotAt x N 0).map .name else none
    | .Tuple es _ _ => (cTs (cTg N sc r n) es).map .tup
    | .Subscript o i _ => if plainE i then (match r o, r i with
      | some a, some b => some (.sub a b)
      | _, _ => none) else none
    | _ => none
/-- what is walked; tg: the target -/
def isTup : Expr → Bool
  | .Tuple _ _ _ => true
  | _ => false
def rawSeq : Expr → Bool
  | .Call (.Name x _) _ _ _ => !(x == ("range" : PySem.Str) || x == ("enumerate" : PySem.Str) || x == ("zip" : PySem.Str) || x == ("reversed" : PySem.Str))
  | .Call (.Attribute _ x _) _ _ _ => !(x == ("items" : PySem.Str) || x == ("values" : PySem.Str) || x == ("keys" : PySem.Str))
  | _ => true
def cI (sc : Scope) (r : Expr → Option E) (tg : Expr) (it : Expr) : Option I :=
  if plainE it then (if rawSeq it then (r it).map .seq else match it with
    | .Call (.Name x _) args [] _ => if isGl sc x then
        (if x = ("range" : PySem.Str) then (if args.length = 1 ∨ args.length = 2 then (cEs r args).map .range else none)
         else if x = ("enumerate" : PySem.Str) then (match args with
          | [a] => if isTup tg && plainE a then (r a).map .enum else none
          | _ => none)
         else if x = ("zip" : PySem.Str) then (match args with
          | [a, b] => if isTup tg && plainE a && plainE b then (match r a, r b with
            | some i, some j => some (.zip i j)
            | _, _ => none) else none
          | _ => none)
         else if x = ("reversed" : PySem.Str) then (match args with
          | [a] => if plainE a then (r a).map .rev else none
          | _ => none)
         else none) else none
    | _ => none) else none
mutual
def slotsT : T → List Nat
  | .name i => [i]
  | .tup ts => slotsTs ts
  | .attr _ _ => []
  | .sub _ _ => []
def slotsTs : Ts → List Nat
  | .nil => []
  | .cons t r => slotsT t ++ slotsTs r
end
/-- the slots of a block's own names -/
def ownOf (N : List PySem.Str) : List (PySem.Str × NameKind) → List (PySem.Str × Nat)
  | [] => []
  | (x, k) :: r => match k with
    | .local => (match slotAt x N 0 with
      | some i => (x, i) :: ownOf N r
      | none => ownOf N r)
    | .cell => (match slotAt x N 0 with
      | some i => (x, i) :: ownOf N r
      | none => ownOf N r)
    | _ => ownOf N r
/-- one level of an expression -/
def stepE (T : Tab) (N : List PySem.Str) (rr : Scope → Expr → Option E) (sc : Scope) (e : Expr) : Option E := match e with
  | .Name x _ => cName T N sc x
  | .Constant c _ _ => cConst c
  | .BinOp a op b _ => (match cOp op, rr sc a, rr sc b with
    | some o, some x, some y => some (.bin o x y)
    | _, _, _ => none)
  | .UnaryOp op a _ => (match op with
    | .USub => (rr sc a).map .neg
    | .Not => (rr sc a).map .not
    | _ => none)
  | .BoolOp op vs _ => cBool (rr sc) op vs
  | .IfExp c a b _ => (match rr sc c, rr sc a, rr sc b with
    | some x, some y, some z => some (.ite x y z)
    | _, _, _ => none)
  | .Compare a ops cs _ => cCmp (rr sc) a ops cs
  | .Tuple es _ _ => (cEs (rr sc) es).map .tup
  | .List es _ => (cEs (rr sc) es).map .lst
  | .Dict ks vs _ => if ks.length ≤ 15 then (cPs (rr sc) ks vs).map .dict else none
  | .Subscript a i _ => (match i with
    | .Slice lo hi none _ => (match rr sc a, cO (rr sc) lo, cO (rr sc) hi with
      | some x, some y, some z => some (.slc x y z)
      | _, _, _ => none)
    | i => if plainE i then (match rr sc a, rr sc i with
      | some x, some y => some (.idx x y)
      | _, _ => none) else none)
  | .ListComp elt gens scope _ => (match gens with
    | [⟨tg, it, ifs, 0⟩] => if blkC N sc scope (ownOf N scope.names) && decide (ifs.length ≤ 1) then (match cI sc (rr sc) tg it, cTn N scope 5 tg, cEs (rr (relS scope sc)) ifs, rr (relS scope sc) elt with
      | some i, some t, some cs, some x => if (slotsT t).all (fun i => ((ownOf N scope.names).map (·.2)).contains i) then some (.lc t i x cs ((ownOf N scope.names).map (·.2))) else none
      | _, _, _, _ => none) else none
    | _ => none)
  | .Call f args kws pos => (match kws with
    | [] => (match f with
      | .Name x _ => cCall T sc (rr sc) x args
      | .Attribute o m apos => if noSuper o then cMeth T (rr sc) o m args (apos.endLine == pos.line) else none
      | _ => none)
    | _ => none)
  | .Attribute o f _ => if T.cls.isEmpty then none else if noSuper o then (match txOf f, rr sc o with
    | some t, some i => some (.attr i (String.ofList t))
    | _, _ => none) else none
  | _ => none
def cE (T : Tab) (N : List PySem.Str) : Nat → Scope → Expr → Option E
  | 0, _, _ => none
  | n + 1, sc, e => stepE T N (cE T N n) sc e
/-! ### statements -/
def cSs (r : Stmt → Option S) : List Stmt → Option Ss
  | [] => some .nil
  | s :: ss => match r s with
    | some a => (cSs r ss).map (.cons a)
    | none => none
/-- name = [.. for ..]: whether the stores are exchanged -/
def isComp : Expr → Bool
  | .ListComp _ _ _ _ => true
  | .SetComp _ _ _ _ => true
  | .DictComp _ _ _ _ _ => true
  | _ => false
/-- a, b = c, d -/
def isTupE : Expr → Bool
  | .Tuple _ _ _ => true
  | _ => false
def stepS (T : Tab) (N : List PySem.Str) (sc : Scope) (ce : Expr → Option E) (rs : Stmt → Option S) (s : Stmt) : Option S := match s with
  | .Expr e _ => (match e with
    | .Constant (.str _) _ _ => some .pass
    | e => if isComp e then none else (ce e).map .expr)
  | .Assign ts e pos => (match ts with
    | [tg] => (match tg with
      | .Name x p => if isLoc sc x then (match slotAt x N 0, ce e with
        | some i, some a => some (.asg (.name i) a)
        | _, _ => none) else none
      | .Tuple es k p => if isTupE e then none else (match cTg N sc ce 5 (.Tuple es k p), ce e with
        | some t, some a => some (.asg t a)
        | _, _ => none)
      | .Subscript o i p => if plainE i then (match ce o, ce i, ce e with
        | some x, some y, some a => some (.asg (.sub x y) a)
        | _, _, _ => none) else none
      | .Attribute o f p => if T.cls.isEmpty || isComp e then none else if noSuper o then (match txOf f, ce o, ce e with
        | some t, some x, some a => some (.asg (.attr x (String.ofList t)) a)
        | _, _, _ => none) else none
      | _ => none)
    | _ => none)
  | .AugAssign tg op e _ => (match tg with
    | .Name x _ => if isLoc sc x then (match slotAt x N 0, cAug op, ce e with
      | some i, some o, some a => some (.augn i o a)
      | _, _, _ => none) else none
    | .Attribute o f _ => if T.cls.isEmpty then none else if noSuper o then (match txOf f, ce o, cAug op, ce e with
      | some t, some x, some op, some a => some (.auga x (String.ofList t) op a)
      | _, _, _, _ => none) else none
    | _ => none)
  | .Return v _ => (match v with
    | some e => (ce e).map .ret
    | none => some .retn)
  | .If c a b _ => (match ce c, cSs rs a, cSs rs b with
    | some x, some y, some z => some (.ite x y z)
    | _, _, _ => none)
  | .While c b orelse _ => (match orelse with
    | [] => (match ce c, cSs rs b with
      | some x, some y => some (.whil x y)
      | _, _ => none)
    | _ => none)
  | .For tg it b orelse _ => (match orelse with
    | [] => (match cTn N sc 5 tg, cI sc ce tg it, cSs rs b with
      | some t, some i, some y => some (.for t i y)
      | _, _, _ => none)
    | _ => none)
  | .Break _ => some .brk
  | .Continue _ => some .cont
  | .Pass _ => some .pass
  | .Delete ts _ => (match ts with
    | [.Subscript o i _] => if plainE i then (match ce o, ce i with
      | some x, some y => some (.del x y)
      | _, _ => none) else none
    | _ => none)
  | .Raise exc cause _ => (match exc, cause with
    | some (.Call (.Name x _) [.Constant (.str _) _ _] [] _), none => if isGl sc x && !odd x then (T.cls.lookup x).map .raise else none
    | _, _ => none)
  | .Try b hs orelse fin _ => (match hs, orelse, fin with
    | [.ExceptHandler (some (.Name x _)) none h _], [], [] => if isGl sc x && !odd x then (match T.cls.lookup x, cSs rs b, cSs rs h with
      | some c, some y, some z => some (.tryx y c z)
      | _, _, _ => none) else none
    | _, _, _ => none)
  | _ => none
def cS (T : Tab) (N : List PySem.Str) (sc : Scope) (ce : Expr → Option E) : Nat → Stmt → Option S
  | 0, _ => none
  | n + 1, s => stepS T N sc ce (cS T N sc ce n) s
/-- a def -/
def cFn (T : Tab) (N : List PySem.Str) (params : Nat) (sc : Scope) (body : List Stmt) : Option Fn :=
  (cSs (cS T N sc (cE T N 40 sc) 40) body).map fun b => ⟨N.length, params, b⟩
end G
/-! The G machine over the hand layer: defs and their calls (the library's own, with no guard around). -/
set_option Elab.async false
set_option linter.all false
set_option maxRecDepth 100000
namespace G
open PySem PySem.Spec L2 PyProof.Rows
/-- room, and no guard -/
structure RoomG (k : Nat) (A : Around) : Prop where
  room : Room k A
  gd : A.guards = some []
theorem RoomG.mono {j k : Nat} {A : Around} (r : RoomG k A) (h : j ≤ k) : RoomG j A := ⟨r.room.mono h, r.gd⟩
theorem RoomG.deeper {k : Nat} {A : Around} (r : RoomG (k + 1) A) (env : PySem.Env) : RoomG k (A.deeper env) := ⟨r.room.deeper env, r.gd⟩
structure FnO (P : Program) (w : World) (K : PySem.W.Frag) (mg : PySem.Str → Option Value) (base : Heap) (k : Nat) (f : Addr) (fd : FuncData) (ps : List PySem.Str) (sp : Sp) : Prop where
  len : ∀ vs H Q E, sp vs H Q E → vs.length = ps.length
  run : ∀ (A : Around) (outer : List PySem.Env) (s : Shared) (H : Hp) (args : Args) (us : List Value) (vs : List V) (Q : VK) (E : XK), RoomG k A →
    Env0 P w K mg base A outer s H → BindsTo s fd args (ps.zip us) → Vals vs us → sp vs H Q E → codeAny (model P w) A (.call (.ref f) args) (CR (CX P w) outer P w H s Q E) s
/-- what a call of the machine's f promises -/
def sG (K : PySem.W.Frag) (mg : PySem.Str → Option Value) (C : Ctx) (f : String) : Sp := fun vs H Q E => ∃ m μ ds, RelG K mg m H μ ∧ Rps K m vs ds ∧
  PostG K mg (fun c _ _ H' => ∀ A, clM mg c = some A → E (.ref A) none H') m H (C.call f ds μ) fun d _ m' H' => ∀ v, Rp K m' v d → Q v H'
/-- the def at a is the machine's f -/
def FnG (P : Program) (w : World) (K : PySem.W.Frag) (mg : PySem.Str → Option Value) (base : Heap) (A : Around) (C : Ctx) (a : Addr) (f : String) : Prop :=
  ∃ k fd ps, FnO P w K mg base k a fd ps (sG K mg C f) ∧ RoomG k A ∧ Binds K fd ps []
section
variable {X : Cx} {C : Ctx} {W : WX}
theorem run_G {a : Addr} {f : String} {pins : List (Addr × Obj)} {σ : L2.St} {H : Hp} {s : Shared} {Q : VK} {us : List Value} {vs : List V} (F : FnG X.prog X.w X.K X.mg X.base X.A C a f) (tk : Takes X W) (I : L2.Inv X pins σ H s) (r : Vals vs us)
    (h : sG X.K X.mg C f vs H Q (WE W σ)) : wpAny (model X.prog X.w) X.A (call (.ref a) us) (EP X pins σ Q) X.xe s := by
  obtain ⟨k, fd, ps, F, room, hb⟩ := F
  have h0 : vs.length = ps.length := F.len _ _ _ _ h
  have h1 : us.length = ps.length := by rw [← r.length]; exact h0
  have b := hb s us I.kIn (by rw [List.append_nil]; exact h1)
  rw [List.append_nil] at b
  refine wpAny_call (codeAny_mono (F.run X.A X.stack s H ⟨us, []⟩ us vs Q (WE W σ) room I.env0 b r h) fun z s' hz => ?_)
  cases z with
  | error e => exact passAt tk σ pins H s e s' I hz
  | ok fl =>
    cases fl with
    | ret u => exact I.after hz
    | _ => exact False.elim hz
/-- f(..) -/
theorem e_call {a : Addr} {f : String} {x : PySem.Str} {e : Expr} {es : List Expr} {is : Es} {p pos : Pos} (F : FnG X.prog X.w X.K X.mg X.base X.A C a f) (tk : Takes X W) (hg : Gl X x) (hm : X.mg x = some (.ref a)) (hk : PySem.W.keepIn X.K (.ref a) = true) (hdb : (x == ("__debug__" : PySem.Str)) = false)
    (ha : PA X (e :: es) (tEs C X W is)) (h1 : starEach (e :: es) X.env = (false, eval e X.env) :: starEach es X.env) (h2 : (backTo pos (starEach es X.env)).any (·.1) = false) : PE X (.Call (.Name x p) (e :: es) [] pos) (tE C X W (.call f is)) := by
  refine ⟨fun pins s σ H Q I q => ?_⟩
  obtain ⟨m, ρ, μ, rel, loc, pp⟩ := q
  simp only [evalE] at pp
  have hA := ha.run pos pins s σ H (fun vs H1 => sG X.K X.mg C f vs H1 Q (WE W σ)) I ⟨m, ρ, μ, rel, loc, pp.bind.imp fun xs μ1 m1 H1 x1 rel1 p1 vs rvs => ⟨m1, μ1, xs, rel1, rvs, p1⟩⟩
  refine wpAny_Call_Name_kw (ld_glob I hg hm ?_ hdb)
  exact PySem.W.callWith_K (h₀ := X.base) I.ok.mod.kin hk (thn hA fun us s1 ⟨vs, H1, I1, r, q⟩ => ⟨I1.kIn, run_G F tk I1 r q⟩) h1 h2
/-- f() -/
theorem e_call0 {a : Addr} {f : String} {x : PySem.Str} {p pos : Pos} (F : FnG X.prog X.w X.K X.mg X.base X.A C a f) (tk : Takes X W) (hg : Gl X x) (hm : X.mg x = some (.ref a)) (hk : PySem.W.keepIn X.K (.ref a) = true) (hdb : (x == ("__debug__" : PySem.Str)) = false) :
    PE X (.Call (.Name x p) [] [] pos) (tE C X W (.call f .nil)) := by
  refine ⟨fun pins s σ H Q I q => ?_⟩
  obtain ⟨m, ρ, μ, rel, loc, pp⟩ := q
  simp only [evalE, evalEs] at pp
  refine wpAny_Call_Name_kw (ld_glob I hg hm ?_ hdb)
  exact PySem.W.callWith_K0 I.kIn hk (run_G (us := []) F tk I .nil ⟨m, μ, [], rel, .nil, pp⟩)
end
/-- a def's body keeps the promise -/
theorem fnO_of {P : Program} {w : World} {K : PySem.W.Frag} {mg : PySem.Str → Option Value} {base : Heap} {k : Nat} {f : Addr} {name qual : PySem.Str} {params : Arguments} {body : List Stmt} {scope : Scope} {dV kV doc pm cdv ct oc : Value} {an od : Option Addr}
    {osl : Array (Option Value)} {N ps : List PySem.Str} {sp : Sp} (lk : K.lookup f = some ⟨oc, od, .func (PySem.W.fnOf name qual params body scope dV kV doc pm an cdv ct), osl⟩) (hcd : PySem.W.codeIn K cdv qual = true) (S : FnScope N ps scope)
    (len : ∀ vs H Q E, sp vs H Q E → vs.length = ps.length)
    (hb : ∀ (A : Around) (outer : List PySem.Env) (s : Shared) (H : Hp) (vs : List V) (Q : VK) (E : XK), RoomG k (A.deeper (envOfC qual scope s.heap.objs.size f cdv)) → sp vs H Q E →
      ∃ t, PSs (cxOf (CX P w) P w K mg base N qual scope f cdv A outer s H E) body t ∧ t { nx := fun _ H' => Q .non H', rt := Q } (start N vs) H) : FnO P w K mg base (k + 1) f (PySem.W.fnOf name qual params body scope dV kV doc pm an cdv ct) ps sp := by
  refine ⟨len, fun A outer s H args us vs Q E room e0 hbind rv hsp => ?_⟩
  have KS : K.In s.heap := e0.mod.kin.keeps fun b o e => (e0.bs b o e).1
  have noLim : s.heap.NoLimit := e0.mod.nolimit.keeps fun b o e => (e0.bs b o e).1
  refine codeAny_call_function room.room.depth (KS _ _ lk) rfl S.co S.gen rfl (PySem.W.codeRec_of KS hcd) (hbind _ _ _ _ ?_)
  refine wpAny_newFunctionEnv_cells S.kind (fun ⟨n, v⟩ hy => ?_) fun env he s1 x => ?_
  · rcases S.par n (List.of_mem_zip hy).1 with q | q
    · exact .inl q
    · exact .inr ⟨q, PySem.W.cellsFrom_some _ _ _ (.inl q)⟩
  subst he
  refine ⟨noLim.keeps x.toInCall.keep, codeAny_func ?_⟩
  obtain ⟨t, ht, hq⟩ := hb A outer s H vs Q E (room.deeper _) hsp
  have I := inv_start (CX := CX P w) (E := E) S room.room.hd e0 (len _ _ _ _ hsp) rv x
  refine wpAny_mono (ht.run [] s1 (start N vs) H _ I hq) (fun fl s' hs => ?_) fun e s' hs => hs
  cases fl with
  | ret u =>
    obtain ⟨v, σ', H', J, r, q⟩ := hs
    exact (⟨v, H', J.os, J.bare, J.base, J.hok, r, q⟩ : CE outer P w H s Q u s')
  | next =>
    obtain ⟨σ', H', J, q⟩ := hs
    exact (⟨V.non, H', J.os, J.bare, J.base, J.hok, rfl, q⟩ : CE outer P w H s Q Value.none s')
  | brk =>
    obtain ⟨_, _, _, q⟩ := hs
    exact q.elim
  | cont =>
    obtain ⟨_, _, _, q⟩ := hs
    exact q.elim
end G
/-! The G machine over the hand layer: what is compiled is served (expressions). -/
set_option Elab.async false
set_option linter.all false
set_option maxRecDepth 100000
namespace G
open PySem PySem.Spec L2
section
variable {X : Cx}
/-- no exception comes of it -/
def Calm {α : Type} (r : R α) : Prop := ∀ c μ, r ≠ .ex c μ
theorem PostG.still {α : Type} {Xc Xd : String → Mem → Mp → Hp → Prop} {m : Mp} {H : Hp} {r : R α} {k : α → Mem → Mp → Hp → Prop} (h : Post X Xc m H r k) (c : Calm r) : Post X Xd m H r k := by
  cases r with
  | bad => exact h
  | ok a μ => exact h
  | ex d μ => exact absurd rfl (c d μ)
theorem calm_ok {α : Type} {a : α} {μ : Mem} : Calm (R.ok a μ) := fun _ _ e => nomatch e
theorem calm_bad {α : Type} : Calm (R.bad : R α) := fun _ _ e => nomatch e
theorem calm_newL {ds : List D} {μ : Mem} : Calm (newL ds μ) := fun _ _ e => nomatch e
theorem ints2_calm {f : Int → Int → Option D} {a b : D} {μ : Mem} : Calm (ints2 f a b μ) := by
  unfold ints2
  repeat' split
  all_goals first | exact calm_ok | exact calm_bad
theorem bin_calm (op : Op) (a b : D) (μ : Mem) : Calm (bin op a b μ) := by
  cases op with
  | add =>
    show Calm (addD a b μ)
    unfold addD addL
    repeat' split
    all_goals first | exact calm_ok | exact calm_bad | exact calm_newL
  | mul =>
    show Calm (mulD a b μ)
    unfold mulD mulL
    repeat' split
    all_goals first | exact calm_ok | exact calm_bad | exact calm_newL
  | sub => unfold bin; exact ints2_calm
  | fdiv => unfold bin; exact ints2_calm
  | mod => unfold bin; exact ints2_calm
  | pow => unfold bin; exact ints2_calm
  | band => unfold bin; exact ints2_calm
theorem neg_calm (a : D) (μ : Mem) : Calm (neg a μ) := by
  unfold neg
  repeat' split
  all_goals first | exact calm_ok | exact calm_bad
theorem cmpR_calm (op : Cmp) (a b : D) (μ : Mem) : Calm (cmpR op a b μ) := by
  unfold cmpR
  repeat' split
  all_goals first | exact calm_ok | exact calm_bad
theorem item_calm (a b : D) (μ : Mem) : Calm (item a b μ) := by
  unfold item itemL
  repeat' split
  all_goals first | exact calm_ok | exact calm_bad
theorem slice_calm (a : D) (l h : Option Int) (μ : Mem) : Calm (slice a l h μ) := by
  unfold slice
  repeat' split
  all_goals first | exact calm_ok | exact calm_bad | exact calm_newL
theorem blt_calm (b : D → Tx) (f : B) (as : List D) (μ : Mem) : Calm (blt b f as μ) := by
  unfold blt bLen bInt bStr bBool bAbs bList bTuple bDict bRepr bSorted bInts bBools
  repeat' split
  all_goals first | exact calm_ok | exact calm_bad | exact calm_newL | exact ints2_calm
theorem bmeth_calm (fr : Bool) (o : D) (f : M) (as : List D) (μ : Mem) : Calm (bmeth fr o f as μ) := by
  unfold bmeth mAppend mPop mPopAt mClear mGet mJoin mText mSplit mIndex
  split
  all_goals (repeat' split)
  all_goals first | exact calm_ok | exact calm_bad | exact calm_newL
/-! ### the readings -/
def tT (C : Ctx) (X : Cx) (W : WX) (i : E) : TT := fun σ H Q => ∃ m ρ μ, RelM X m H μ ∧ Loc X m σ ρ ∧ Post X (xw X W σ) m H (evalE C i ρ μ) fun d μ' m' H' => ∃ b, truth μ' d = some b ∧ Q b H'
/-- what stands around a text -/
structure Ok (T : Tab) (C : Ctx) (X : Cx) (W : WX) : Prop where
  calm : X.calm = true
  nd : X.N.Nodup
  lib : Lib X.mg
  unit : X.A.units + 200 < cLine
  takes : Takes X W
  con : ∀ x d, T.con.lookup x = some d → ∃ v u, X.mg x = some u ∧ RelV v u ∧ ∀ m, Rp X.K m v d
  fns : ∀ x f, T.fns.lookup x = some f → ∃ a, X.mg x = some (.ref a) ∧ PySem.W.keepIn X.K (.ref a) = true ∧ FnG X.prog X.w X.K X.mg X.base X.A C a f
  cls : T.cls = []
  mth : T.mth = []
theorem Ok.hu {T : Tab} {C : Ctx} {W : WX} (o : Ok T C X W) : X.A.units + 64 < cLine := by have := o.unit; omega
variable {T : Tab} {C : Ctx} {W : WX}
theorem slotAt_ok {x : PySem.Str} : ∀ {N : List PySem.Str} {n i : Nat}, slotAt x N n = some i → n ≤ i ∧ N[i - n]? = some x
  | [], _, _, h => by simp [slotAt] at h
  | y :: ys, n, i, h => by
    unfold slotAt at h
    split at h
    · next e =>
      cases h
      subst e
      exact ⟨Nat.le_refl _, by simp⟩
    · obtain ⟨h1, h2⟩ := slotAt_ok h
      refine ⟨by omega, ?_⟩
      have : i - n = (i - (n + 1)) + 1 := by omega
      rw [this]
      simpa using h2
theorem slot_at {x : PySem.Str} {N : List PySem.Str} {i : Nat} (h : slotAt x N 0 = some i) : N[i]? = some x := by simpa using (slotAt_ok h).2
theorem isVis_ok {sc : Scope} {x : PySem.Str} (h : isVis sc x = true) : Vis sc x := by
  unfold isVis at h
  unfold Vis
  split at h
  · next e => exact .inl e
  · next e => exact .inr (.inl e)
  · next e => exact .inr (.inr e)
  · cases h
theorem isGl_ok {x : PySem.Str} (h : isGl X.env.scope x = true) : Gl X x := by
  unfold isGl at h
  split at h
  · next e => exact e
  · cases h
theorem isLoc_ok {sc : Scope} {x : PySem.Str} (h : isLoc sc x = true) : L2.Loc sc x := by
  unfold isLoc at h
  unfold L2.Loc
  split at h
  · next e => exact .inl e
  · next e => exact .inr e
  · cases h
theorem odd_ok {x : PySem.Str} (h : odd x = false) : (x == ("__debug__" : PySem.Str)) = false ∧ (x == ("__classdict__" : PySem.Str)) = false ∧ x ≠ "__name__" := by
  unfold odd at h
  simp only [Bool.or_eq_false_iff] at h
  exact ⟨h.1.1, h.1.2, by simpa using h.2⟩
theorem map_ofNat : ∀ {l : List Nat}, (l.all fun n => decide (n.isValidChar)) = true → (l.map Char.ofNat).map Char.toNat = l
  | [], _ => rfl
  | n :: l, h => by
    simp only [List.all_cons, Bool.and_eq_true, decide_eq_true_eq] at h
    rw [List.map_cons, List.map_cons, map_ofNat h.2]
    have hv : n.isValidChar := h.1
    have e : (Char.ofNat n).toNat = n := by
      unfold Char.ofNat
      rw [dif_pos hv]
      show (Char.ofNatAux n hv).toNat = n
      rfl
    rw [e]
theorem txOf_ok {x : PySem.Str} {t : Tx} (h : txOf x = some t) : cs t = x ∧ t.length ≤ line := by
  unfold txOf at h
  split at h
  · next e =>
    simp only [Bool.and_eq_true, decide_eq_true_eq] at e
    cases h
    refine ⟨?_, by rw [List.length_map]; exact e.2⟩
    unfold cs
    rw [map_ofNat e.1]
  · cases h
/-! ### names and constants -/
theorem e_lit {e : Expr} {v : V} {d : D} (h : PE X e (tC v)) (r : ∀ m, Rp X.K m v d) : PE X e (tE C X W (.lit d)) := by
  refine imE h fun σ H Q q => ?_
  obtain ⟨m, ρ, μ, rel, loc, p⟩ := q
  exact PostG.give rel p (r m)
theorem e_var {i : Nat} {x : PySem.Str} {pos : Pos} (hx : slotAt x X.N 0 = some i) (hv : isVis X.env.scope x = true) (ho : odd x = false) : PE X (.Name x pos) (tE C X W (.var i)) := by
  obtain ⟨o1, o2, _⟩ := odd_ok ho
  refine imE (pe_var (slot_at hx) (isVis_ok hv) o1 o2) fun σ H Q q => ?_
  obtain ⟨m, ρ, μ, rel, loc, p⟩ := q
  simp only [evalE] at p
  split at p
  · next d e =>
    obtain ⟨v, e1, r⟩ := loc.2 i d e
    exact ⟨v, e1, PostG.give rel p r⟩
  · exact p.elim
theorem name_ok (ok : Ok T C X W) {x : PySem.Str} {pos : Pos} {i : E} (h : cName T X.N X.env.scope x = some i) : PE X (.Name x pos) (tE C X W i) := by
  unfold cName at h
  split at h
  · cases h
  · next ho =>
    have ho : odd x = false := by simpa using ho
    split at h
    · next hv =>
      cases e : slotAt x X.N 0 with
      | none => rw [e] at h; cases h
      | some k =>
        rw [e] at h
        cases h
        exact e_var e hv ho
    · split at h
      · next hg =>
        cases e : T.con.lookup x with
        | none => rw [e] at h; cases h
        | some d =>
          rw [e] at h
          cases h
          obtain ⟨v, u, h1, h2, h3⟩ := ok.con x d e
          exact e_lit (pe_glob (isGl_ok hg) h1 h2 (odd_ok ho).1) h3
      · cases h
theorem const_ok {c : Const} {k : Nat} {pos : Pos} {i : E} (h : cConst c = some i) : PE X (.Constant c k pos) (tE C X W i) := by
  cases c with
  | none => cases h; exact e_lit pe_non fun _ => .non
  | bool b => cases h; exact e_lit pe_bl fun _ => .bl b
  | int n => cases h; exact e_lit pe_int fun _ => .int n
  | str x =>
    simp only [cConst, Option.map_eq_some_iff] at h
    obtain ⟨t, h1, rfl⟩ := h
    obtain ⟨e, l⟩ := txOf_ok h1
    exact e_lit pe_str fun _ => by rw [← e]; exact .str t l
  | _ => cases h
/-! ### operators -/
theorem e_bin {op : Op} {a b : Expr} {i j : E} {pos : Pos} (ha : PE X a (tE C X W i)) (hb : PE X b (tE C X W j)) : PE X (.BinOp a (opOf op) b pos) (tE C X W (.bin op i j)) := by
  refine imE (pe_op (op_bin op) ha hb) fun σ H Q q => ?_
  obtain ⟨m, ρ, μ, rel, loc, p⟩ := q
  simp only [evalE] at p
  refine ⟨m, ρ, μ, rel, loc, p.bind.imp fun x μ1 m1 H1 x1 rel1 p1 v rv => ?_⟩
  refine ⟨m1, ρ, μ1, rel1, loc.mono x1.le, p1.bind.imp fun y μ2 m2 H2 x2 rel2 p2 w rw => ?_⟩
  exact ⟨m2, μ2, x, y, rel2, rv.mono x2.le, rw, p2.still (bin_calm op x y μ2)⟩
theorem e_neg {a : Expr} {i : E} {pos : Pos} (ha : PE X a (tE C X W i)) : PE X (.UnaryOp .USub a pos) (tE C X W (.neg i)) := by
  refine imE (pe_un un_neg' ha) fun σ H Q q => ?_
  obtain ⟨m, ρ, μ, rel, loc, p⟩ := q
  simp only [evalE] at p
  exact ⟨m, ρ, μ, rel, loc, p.bind.imp fun x μ1 m1 H1 x1 rel1 p1 v rv => ⟨m1, μ1, x, rel1, rv, p1.still (neg_calm x μ1)⟩⟩
theorem e_not {a : Expr} {i : E} {pos : Pos} (ha : PE X a (tE C X W i)) : PE X (.UnaryOp .Not a pos) (tE C X W (.not i)) := by
  refine imE (pe_notT ha) fun σ H Q q => ?_
  obtain ⟨m, ρ, μ, rel, loc, p⟩ := q
  simp only [evalE] at p
  refine ⟨m, ρ, μ, rel, loc, p.bind.imp fun x μ1 m1 H1 x1 rel1 p1 v rv => ?_⟩
  cases e : truth μ1 x with
  | none => rw [e] at p1; exact p1.elim
  | some b =>
    rw [e] at p1
    exact ⟨b, tru_of rel1 rv e, PostG.give rel1 p1 (.bl _)⟩
theorem e_cmp (hu : X.A.units + 64 < cLine) {op : Cmp} {a b : Expr} {i j : E} {pos : Pos} (ha : PE X a (tE C X W i)) (hb : PE X b (tE C X W j)) (hm : behindInMarks (copOf op) b = false) : PE X (.Compare a [copOf op] [b] pos) (tE C X W (.cmp op i j)) := by
  refine imE (pe_cmpR (op_cmp hu op) ha hb hm) fun σ H Q q => ?_
  obtain ⟨m, ρ, μ, rel, loc, p⟩ := q
  simp only [evalE] at p
  refine ⟨m, ρ, μ, rel, loc, p.bind.imp fun x μ1 m1 H1 x1 rel1 p1 v rv => ?_⟩
  refine ⟨m1, ρ, μ1, rel1, loc.mono x1.le, p1.bind.imp fun y μ2 m2 H2 x2 rel2 p2 w rw => ?_⟩
  exact ⟨m2, μ2, x, y, rel2, rv.mono x2.le, rw, p2.still (cmpR_calm op x y μ2)⟩
/-- a comparison's answer by cmpD -/
theorem r2_cmp {op : Cmp} {m : Mp} {H : Hp} {μ : Mem} {x y : D} {v w : V} {b : Bool} {Q : VK} (rel : RelM X m H μ) (rv : Rp X.K m v x) (rw : Rp X.K m w y) (e : cmpD op x y μ = some b) (q : ∀ m' H', Ext m H m' H' → RelM X m' H' μ → Q (.bl b) H') : r2 X (cmpR op) v w H Q := by
  refine ⟨m, μ, x, y, rel, rv, rw, ?_⟩
  unfold cmpR
  rw [e]
  intro m' H' x' rel' z rz
  cases rz
  exact q m' H' x' rel'
theorem e_chain (hu : X.A.units + 64 < cLine) {op op' : Cmp} {a b c : Expr} {i j k : E} {pos : Pos} (ha : PE X a (tE C X W i)) (hb : PE X b (tE C X W j)) (hc : PE X c (tE C X W k)) (hm : lastMarks [copOf op, copOf op'] [b, c] = false) :
    PE X (.Compare a [copOf op, copOf op'] [b, c] pos) (tE C X W (.chain op op' i j k)) := by
  refine imE (pe_chain (op_cmp hu op) (op_cmp hu op') ha hb hc hm) fun σ H Q q => ?_
  obtain ⟨m, ρ, μ, rel, loc, p⟩ := q
  simp only [evalE] at p
  refine ⟨m, ρ, μ, rel, loc, p.bind.imp fun x μ1 m1 H1 x1 rel1 p1 v rv => ?_⟩
  refine ⟨m1, ρ, μ1, rel1, loc.mono x1.le, p1.bind.imp fun y μ2 m2 H2 x2 rel2 p2 w rw => ?_⟩
  cases e : cmpD op x y μ2 with
  | none => rw [e] at p2; exact p2.elim
  | some t =>
    rw [e] at p2
    refine r2_cmp rel2 (rv.mono x2.le) rw e fun m3 H3 x3 rel3 => ⟨t, rfl, ?_⟩
    cases t with
    | false => exact PostG.give rel3 (p2.on x3) (.bl _)
    | true =>
      refine ⟨m3, ρ, μ2, rel3, (loc.mono (x1.le.trans x2.le)).mono x3.le, (p2.on x3).bind.imp fun z μ4 m4 H4 x4 rel4 p4 u ru => ?_⟩
      exact ⟨m4, μ4, y, z, rel4, (rw.mono x3.le).mono x4.le, ru, p4.still (cmpR_calm op' y z μ4)⟩
theorem e_and {a b : Expr} {rest : List Expr} {i j : E} {pos : Pos} (ha : PE X a (tE C X W i)) (hb : PE X (.BoolOp .And (b :: rest) pos) (tE C X W j)) : PE X (.BoolOp .And (a :: b :: rest) pos) (tE C X W (.and i j)) := by
  refine imE (pe_andT ha hb) fun σ H Q q => ?_
  obtain ⟨m, ρ, μ, rel, loc, p⟩ := q
  simp only [evalE] at p
  refine ⟨m, ρ, μ, rel, loc, p.bind.imp fun x μ1 m1 H1 x1 rel1 p1 v rv => ?_⟩
  cases e : truth μ1 x with
  | none => rw [e] at p1; exact p1.elim
  | some t =>
    rw [e] at p1
    refine ⟨t, tru_of rel1 rv e, ?_⟩
    cases t with
    | true => exact ⟨m1, ρ, μ1, rel1, loc.mono x1.le, p1⟩
    | false => exact PostG.give rel1 p1 rv
theorem e_or {a b : Expr} {rest : List Expr} {i j : E} {pos : Pos} (ha : PE X a (tE C X W i)) (hb : PE X (.BoolOp .Or (b :: rest) pos) (tE C X W j)) : PE X (.BoolOp .Or (a :: b :: rest) pos) (tE C X W (.or i j)) := by
  refine imE (pe_orT ha hb) fun σ H Q q => ?_
  obtain ⟨m, ρ, μ, rel, loc, p⟩ := q
  simp only [evalE] at p
  refine ⟨m, ρ, μ, rel, loc, p.bind.imp fun x μ1 m1 H1 x1 rel1 p1 v rv => ?_⟩
  cases e : truth μ1 x with
  | none => rw [e] at p1; exact p1.elim
  | some t =>
    rw [e] at p1
    refine ⟨t, tru_of rel1 rv e, ?_⟩
    cases t with
    | false => exact ⟨m1, ρ, μ1, rel1, loc.mono x1.le, p1⟩
    | true => exact PostG.give rel1 p1 rv
theorem e_ite {c a b : Expr} {i j k : E} {pos : Pos} (hc : PT X c (tT C X W i)) (ha : PE X a (tE C X W j)) (hb : PE X b (tE C X W k)) : PE X (.IfExp c a b pos) (tE C X W (.ite i j k)) := by
  refine imE (pe_ifExp hc ha hb) fun σ H Q q => ?_
  obtain ⟨m, ρ, μ, rel, loc, p⟩ := q
  simp only [evalE] at p
  refine ⟨m, ρ, μ, rel, loc, p.bind.imp fun x μ1 m1 H1 x1 rel1 p1 => ?_⟩
  cases e : truth μ1 x with
  | none => rw [e] at p1; exact p1.elim
  | some t =>
    rw [e] at p1
    refine ⟨t, rfl, ?_⟩
    cases t with
    | true => exact ⟨m1, ρ, μ1, rel1, loc.mono x1.le, p1⟩
    | false => exact ⟨m1, ρ, μ1, rel1, loc.mono x1.le, p1⟩
/-! ### tests -/
theorem t_val {a : Expr} {i : E} (ha : PE X a (tE C X W i)) (he : ∀ whole, isTrue a X.env whole = (do let v ← whole; standAt a.pos; holding [v] (truthy v))) : PT X a (tT C X W i) := by
  refine imT (pt_truth ha he) fun σ H Q q => ?_
  obtain ⟨m, ρ, μ, rel, loc, p⟩ := q
  exact ⟨m, ρ, μ, rel, loc, p.imp fun x μ1 m1 H1 x1 rel1 ⟨b, e, q⟩ v rv => ⟨b, tru_of rel1 rv e, q⟩⟩
theorem t_not {a : Expr} {i : E} {pos : Pos} (ha : PT X a (tT C X W i)) : PT X (.UnaryOp .Not a pos) (tT C X W (.not i)) := by
  refine imT (pt_not ha) fun σ H Q q => ?_
  obtain ⟨m, ρ, μ, rel, loc, p⟩ := q
  simp only [evalE] at p
  refine ⟨m, ρ, μ, rel, loc, p.bind.imp fun x μ1 m1 H1 x1 rel1 p1 => ?_⟩
  cases e : truth μ1 x with
  | none => rw [e] at p1; exact p1.elim
  | some t =>
    rw [e] at p1
    obtain ⟨b, e2, q⟩ := p1 m1 H1 (Ext.refl _ _) rel1
    cases e2
    exact ⟨t, rfl, q⟩
theorem t_cmp (hu : X.A.units + 64 < cLine) {op : Cmp} {a b : Expr} {i j : E} {pos : Pos} (ha : PE X a (tE C X W i)) (hb : PE X b (tE C X W j)) (hm : behindInMarks (copOf op) b = false) : PT X (.Compare a [copOf op] [b] pos) (tT C X W (.cmp op i j)) := by
  refine imT (pt_cmpR (op_cmp hu op) ha hb hm) fun σ H Q q => ?_
  obtain ⟨m, ρ, μ, rel, loc, p⟩ := q
  simp only [evalE] at p
  refine ⟨m, ρ, μ, rel, loc, p.bind.imp fun x μ1 m1 H1 x1 rel1 p1 v rv => ?_⟩
  refine ⟨m1, ρ, μ1, rel1, loc.mono x1.le, p1.bind.imp fun y μ2 m2 H2 x2 rel2 p2 w rw => ?_⟩
  unfold cmpR at p2
  cases e : cmpD op x y μ2 with
  | none => rw [e] at p2; exact p2.elim
  | some t =>
    rw [e] at p2
    refine r2_cmp rel2 (rv.mono x2.le) rw e fun m3 H3 x3 rel3 => ⟨t, rfl, ?_⟩
    obtain ⟨b, e2, q⟩ := p2 m3 H3 x3 rel3
    cases e2
    exact q
theorem t_chain (hu : X.A.units + 64 < cLine) {op op' : Cmp} {a b c : Expr} {i j k : E} {pos : Pos} (ha : PE X a (tE C X W i)) (hb : PE X b (tE C X W j)) (hc : PE X c (tE C X W k)) (hm : lastMarks [copOf op, copOf op'] [b, c] = false) :
    PT X (.Compare a [copOf op, copOf op'] [b, c] pos) (tT C X W (.chain op op' i j k)) := by
  refine imT (pt_chain (op_cmp hu op) (op_cmp hu op') ha hb hc hm) fun σ H Q q => ?_
  obtain ⟨m, ρ, μ, rel, loc, p⟩ := q
  simp only [evalE] at p
  refine ⟨m, ρ, μ, rel, loc, p.bind.imp fun x μ1 m1 H1 x1 rel1 p1 v rv => ?_⟩
  refine ⟨m1, ρ, μ1, rel1, loc.mono x1.le, p1.bind.imp fun y μ2 m2 H2 x2 rel2 p2 w rw => ?_⟩
  cases e : cmpD op x y μ2 with
  | none => rw [e] at p2; exact p2.elim
  | some t =>
    rw [e] at p2
    refine r2_cmp rel2 (rv.mono x2.le) rw e fun m3 H3 x3 rel3 => ⟨t, rfl, ?_⟩
    cases t with
    | false =>
      obtain ⟨b, e2, q⟩ := (p2.on x3) m3 H3 (Ext.refl _ _) rel3
      cases e2
      exact ⟨false, rfl, q⟩
    | true =>
      refine ⟨m3, ρ, μ2, rel3, (loc.mono (x1.le.trans x2.le)).mono x3.le, (p2.on x3).bind.imp fun z μ4 m4 H4 x4 rel4 p4 u ru => ?_⟩
      unfold cmpR at p4
      cases e4 : cmpD op' y z μ4 with
      | none => rw [e4] at p4; exact p4.elim
      | some t4 =>
        rw [e4] at p4
        refine r2_cmp rel4 ((rw.mono x3.le).mono x4.le) ru e4 fun m5 H5 x5 rel5 => ⟨t4, rfl, ?_⟩
        obtain ⟨b, e2, q⟩ := p4 m5 H5 x5 rel5
        cases e2
        exact q
theorem w_and {a b : Expr} {rest : List Expr} {i j : E} {pos : Pos} (ha : PT X a (tT C X W i)) (hb : PW X (.BoolOp .And (b :: rest) pos) (tT C X W j)) : PW X (.BoolOp .And (a :: b :: rest) pos) (tT C X W (.and i j)) := by
  have h := pw_and ha hb
  refine ⟨fun whole pins s σ H Q I q => h.run whole pins s σ H Q I ?_⟩
  obtain ⟨m, ρ, μ, rel, loc, p⟩ := q
  simp only [evalE] at p
  refine ⟨m, ρ, μ, rel, loc, p.bind.imp fun x μ1 m1 H1 x1 rel1 p1 => ?_⟩
  cases e : truth μ1 x with
  | none => rw [e] at p1; exact p1.elim
  | some t =>
    rw [e] at p1
    refine ⟨t, rfl, ?_⟩
    cases t with
    | true => exact ⟨m1, ρ, μ1, rel1, loc.mono x1.le, p1⟩
    | false =>
      obtain ⟨b, e2, q⟩ := p1 m1 H1 (Ext.refl _ _) rel1
      rw [e] at e2
      cases e2
      exact q
theorem w_or {a b : Expr} {rest : List Expr} {i j : E} {pos : Pos} (ha : PT X a (tT C X W i)) (hb : PW X (.BoolOp .Or (b :: rest) pos) (tT C X W j)) : PW X (.BoolOp .Or (a :: b :: rest) pos) (tT C X W (.or i j)) := by
  have h := pw_or ha hb
  refine ⟨fun whole pins s σ H Q I q => h.run whole pins s σ H Q I ?_⟩
  obtain ⟨m, ρ, μ, rel, loc, p⟩ := q
  simp only [evalE] at p
  refine ⟨m, ρ, μ, rel, loc, p.bind.imp fun x μ1 m1 H1 x1 rel1 p1 => ?_⟩
  cases e : truth μ1 x with
  | none => rw [e] at p1; exact p1.elim
  | some t =>
    rw [e] at p1
    refine ⟨t, rfl, ?_⟩
    cases t with
    | false => exact ⟨m1, ρ, μ1, rel1, loc.mono x1.le, p1⟩
    | true =>
      obtain ⟨b, e2, q⟩ := p1 m1 H1 (Ext.refl _ _) rel1
      rw [e] at e2
      cases e2
      exact q
end
end G
/-! The G machine over the hand layer: arguments, displays, subscripts. -/
set_option Elab.async false
set_option linter.all false
set_option maxRecDepth 100000
namespace G
open PySem PySem.Spec L2
section
variable {X : Cx} {T : Tab} {C : Ctx} {W : WX}
theorem star_one {e : Expr} {es : List Expr} {env : PySem.Env} (h : plainE e = true) : starEach (e :: es) env = (false, eval e env) :: starEach es env := by
  cases e <;> first | rfl | cases h
/-- all are plain -/
def plains (es : List Expr) : Bool := es.all plainE
theorem star_any {env : PySem.Env} {pos : Pos} : ∀ {es : List Expr}, plains es = true → (backTo pos (starEach es env)).any (·.1) = false
  | [], _ => rfl
  | e :: es, h => by
    simp only [plains, List.all_cons, Bool.and_eq_true] at h
    rw [star_one h.1]
    show (false || (backTo pos (starEach es env)).any (·.1)) = false
    rw [star_any h.2, Bool.or_self]
theorem star_all {env : PySem.Env} {pos : Pos} : ∀ {es : List Expr}, plains es = true → (backTo pos (starEach es env)).all (fun x => !x.1) = true
  | [], _ => rfl
  | e :: es, h => by
    simp only [plains, List.all_cons, Bool.and_eq_true] at h
    rw [star_one h.1]
    show (!false && (backTo pos (starEach es env)).all (fun x => !x.1)) = true
    rw [star_all h.2]
    rfl
/-- the compiled arguments are plain -/
theorem cEs_plain {r : Expr → Option E} : ∀ {es : List Expr} {is : Es}, cEs r es = some is → plains es = true
  | [], _, _ => rfl
  | e :: es, is, h => by
    unfold cEs at h
    split at h
    · next hp =>
      split at h
      · next i hi =>
        simp only [Option.map_eq_some_iff] at h
        obtain ⟨js, h1, _⟩ := h
        have q := cEs_plain h1
        simp only [plains] at q
        simp only [plains, List.all_cons, hp, q, Bool.and_self]
      · cases h
    · cases h
theorem a_nil : PA X [] (tEs C X W .nil) := by
  refine imA pa_nil fun σ H Q q => ?_
  obtain ⟨m, ρ, μ, rel, loc, p⟩ := q
  simp only [evalEs] at p
  exact p m H (Ext.refl _ _) rel [] .nil
theorem a_cons {e : Expr} {es : List Expr} {i : E} {is : Es} (h1 : PE X e (tE C X W i)) (h2 : PA X es (tEs C X W is)) (hp : plainE e = true) : PA X (e :: es) (tEs C X W (.cons i is)) := by
  refine imA (pa_cons h1 h2 (star_one hp)) fun σ H Q q => ?_
  obtain ⟨m, ρ, μ, rel, loc, p⟩ := q
  simp only [evalEs] at p
  refine ⟨m, ρ, μ, rel, loc, p.bind.imp fun x μ1 m1 H1 x1 rel1 p1 v rv => ?_⟩
  refine ⟨m1, ρ, μ1, rel1, loc.mono x1.le, p1.bind.imp fun xs μ2 m2 H2 x2 rel2 p2 vs rvs => ?_⟩
  exact p2 m2 H2 (Ext.refl _ _) rel2 _ (.cons (rv.mono x2.le) rvs)
theorem args_ok {r : Expr → Option E} (hr : ∀ e i, r e = some i → PE X e (tE C X W i)) : ∀ {es : List Expr} {is : Es}, cEs r es = some is → PA X es (tEs C X W is)
  | [], _, h => by
    cases h
    exact a_nil
  | e :: es, is, h => by
    unfold cEs at h
    split at h
    · next hp =>
      split at h
      · next i hi =>
        simp only [Option.map_eq_some_iff] at h
        obtain ⟨js, h1, rfl⟩ := h
        exact a_cons (hr _ _ hi) (args_ok hr h1) hp
      · cases h
    · cases h
/-! ### displays -/
theorem e_tup {es : List Expr} {is : Es} {k : Nat} {pos : Pos} (h : PA X es (tEs C X W is)) : PE X (.Tuple es k pos) (tE C X W (.tup is)) := by
  refine imE (pe_tup h) fun σ H Q q => ?_
  obtain ⟨m, ρ, μ, rel, loc, p⟩ := q
  simp only [evalE] at p
  refine ⟨m, ρ, μ, rel, loc, p.bind.imp fun xs μ1 m1 H1 x1 rel1 p1 vs rvs => ?_⟩
  split at p1
  · next hl =>
    refine ⟨by rw [rvs.len, ← line_eq]; exact hl, ?_⟩
    obtain ⟨m2, rel2, x2, r2⟩ := rel1.frzIf (b := C.fr) rvs
    exact PostG.newT rel2 (p1.on x2) r2
  · exact p1.elim
theorem e_lst {es : List Expr} {is : Es} {pos : Pos} (h : PA X es (tEs C X W is)) : PE X (.List es pos) (tE C X W (.lst is)) := by
  refine imE (pe_lst h) fun σ H Q q => ?_
  obtain ⟨m, ρ, μ, rel, loc, p⟩ := q
  simp only [evalE] at p
  refine ⟨m, ρ, μ, rel, loc, p.bind.imp fun xs μ1 m1 H1 x1 rel1 p1 vs rvs => ?_⟩
  split at p1
  · next hl =>
    refine ⟨by rw [rvs.len, ← line_eq]; exact hl, ?_⟩
    obtain ⟨m2, rel2, x2, r2⟩ := rel1.frzIf (b := C.fr) rvs
    exact PostG.newL rel2 (p1.on x2) r2
  · exact p1.elim
/-! ### subscripts -/
theorem plainIx {i : Expr} (h : plainE i = true) : PlainIx i := by
  intro o j
  cases i <;> first | rfl | cases h
theorem e_idx (hu : X.A.units + 64 < cLine) {a i : Expr} {j k : E} {pos : Pos} (ha : PE X a (tE C X W j)) (hi : PE X i (tE C X W k)) (hp : plainE i = true) : PE X (.Subscript a i pos) (tE C X W (.idx j k)) := by
  refine imE (pe_ix (ix_item hu) ha hi (plainIx hp)) fun σ H Q q => ?_
  obtain ⟨m, ρ, μ, rel, loc, p⟩ := q
  simp only [evalE] at p
  refine ⟨m, ρ, μ, rel, loc, p.bind.imp fun x μ1 m1 H1 x1 rel1 p1 v rv => ?_⟩
  refine ⟨m1, ρ, μ1, rel1, loc.mono x1.le, p1.bind.imp fun y μ2 m2 H2 x2 rel2 p2 w rw => ?_⟩
  exact ⟨m2, μ2, x, y, rel2, rv.mono x2.le, rw, p2.still (item_calm x y μ2)⟩
/-- a slice's part -/
def tO (C : Ctx) (X : Cx) (W : WX) (i : O) : TO := fun σ H Q => ∃ m ρ μ, RelM X m H μ ∧ Loc X m σ ρ ∧ Post X (xw X W σ) m H (evalO C i ρ μ) fun d _ m' H' => ∃ l, optInt d = some l ∧ Q l H'
theorem imO {e : Option Expr} {t t' : TO} (h : PO X e t) (i : ∀ σ H Q, t' σ H Q → t σ H Q) : PO X e t' := ⟨fun pins s σ H Q I q => h.run pins s σ H Q I (i σ H Q q)⟩
theorem o_ok {r : Expr → Option E} (hr : ∀ e i, r e = some i → PE X e (tE C X W i)) {e : Option Expr} {i : O} (h : cO r e = some i) : PO X e (tO C X W i) := by
  cases e with
  | none =>
    cases h
    refine imO po_none fun σ H Q q => ?_
    obtain ⟨m, ρ, μ, rel, loc, p⟩ := q
    simp only [evalO] at p
    obtain ⟨l, e, q⟩ := p m H (Ext.refl _ _) rel
    cases e
    exact q
  | some e =>
    simp only [cO, Option.map_eq_some_iff] at h
    obtain ⟨j, h1, rfl⟩ := h
    refine imO (po_some (hr _ _ h1)) fun σ H Q q => ?_
    obtain ⟨m, ρ, μ, rel, loc, p⟩ := q
    simp only [evalO] at p
    refine ⟨m, ρ, μ, rel, loc, p.bind.imp fun x μ1 m1 H1 x1 rel1 p1 v rv => ?_⟩
    obtain ⟨l, e, q⟩ := p1 m1 H1 (Ext.refl _ _) rel1
    cases x with
    | int n =>
      cases e
      cases rv
      exact ⟨n, rfl, q⟩
    | _ => cases e
theorem e_slc {a : Expr} {lo hi : Option Expr} {j : E} {l h : O} {pos p2 : Pos} (ha : PE X a (tE C X W j)) (hl : PO X lo (tO C X W l)) (hh : PO X hi (tO C X W h)) : PE X (.Subscript a (.Slice lo hi none p2) pos) (tE C X W (.slc j l h)) := by
  refine imE (pe_slice sl_slice ha hl hh) fun σ H Q q => ?_
  obtain ⟨m, ρ, μ, rel, loc, p⟩ := q
  simp only [evalE] at p
  refine ⟨m, ρ, μ, rel, loc, p.bind.imp fun x μ1 m1 H1 x1 rel1 p1 v rv => ?_⟩
  refine ⟨m1, ρ, μ1, rel1, loc.mono x1.le, p1.bind.imp fun l μ2 m2 H2 x2 rel2 p2 => ?_⟩
  cases el : optInt l with
  | none => rw [el] at p2; exact p2.elim
  | some l' =>
    rw [el] at p2
    refine ⟨l', rfl, m2, ρ, μ2, rel2, loc.mono (x1.le.trans x2.le), p2.bind.imp fun d μ3 m3 H3 x3 rel3 p3 => ?_⟩
    cases eh : optInt d with
    | none => rw [eh] at p3; exact p3.elim
    | some h' =>
      rw [eh] at p3
      exact ⟨h', rfl, m3, μ3, x, rel3, (rv.mono x2.le).mono x3.le, p3.still (slice_calm x l' h' μ3)⟩
end
end G
/-! The G machine over the hand layer: built-in functions, isinstance. -/
set_option Elab.async false
set_option linter.all false
set_option maxRecDepth 100000
namespace G
open PySem PySem.Spec L2
section
variable {X : Cx} {T : Tab} {C : Ctx} {W : WX}
theorem of_lookup {α β : Type} [BEq α] [LawfulBEq α] {x : α} {b : β} : ∀ {l : List (α × β)}, l.lookup x = some b → (x, b) ∈ l
  | [], h => by simp at h
  | (y, c) :: l, h => by
    rw [List.lookup_cons] at h
    split at h
    · next e =>
      cases h
      rw [eq_of_beq e]
      exact List.mem_cons_self
    · exact List.mem_cons_of_mem _ (of_lookup h)
theorem merge_le (ns : List Int) : (ns.mergeSort leI).Pairwise (· ≤ ·) := by
  have h := List.pairwise_mergeSort (le := leI) (by
    intro a b c h1 h2
    unfold leI at *
    simp only [decide_eq_true_eq] at *
    omega) (by
    intro a b
    unfold leI
    simp only [Bool.or_eq_true, decide_eq_true_eq]
    omega) ns
  exact h.imp fun h => by
    unfold leI at h
    simpa using h
theorem sorted_one : ∀ {a b : List Int}, a.Perm b → a.Pairwise (· ≤ ·) → b.Pairwise (· ≤ ·) → a = b := fun h1 h2 h3 => h1.eq_of_pairwise (fun a b _ _ x y => Int.le_antisymm x y) h2 h3
theorem c_sorted {b : D → Tx} : CallR X (.builtin "sorted") (rN X (blt b .sorted)) := by
  intro pins s σ H xs us Q I rx h
  obtain ⟨m, μ, as, rel, ra, post⟩ := h
  cases ra with
  | nil => exact post.elim
  | cons r1 r2 =>
    cases r2 with
    | cons _ _ => exact post.elim
    | nil =>
      rename_i x a
      have post : Post X (fun _ _ _ _ => False) m H (bSorted a μ) fun d _ m' H' => ∀ v, Rp X.K m' v d → Q v H' := post
      unfold bSorted at post
      cases e : getL μ a with
      | none => rw [e] at post; exact post.elim
      | some ds =>
        simp only [e] at post
        obtain ⟨p, ys, rfl, h1, h3⟩ := rel.getL r1 e
        unfold sortD at post
        cases e2 : intsOf ds with
        | none => simp only [e2] at post; exact post.elim
        | some ns =>
          simp only [e2] at post
          by_cases h64 : ns.length < 64
          · simp only [h64, if_true] at post
            obtain ⟨ev, ed⟩ := h3.ints e2
            subst ev
            exact cr_sorted pins s σ H _ us Q I rx ⟨p, ns, rfl, h1.l, h64, fun ns' q hp hs hq => by
              have e3 : ns' = ns.mergeSort leI := sorted_one (hp.trans (List.mergeSort_perm ns leI).symm) hs (merge_le ns)
              subst e3
              exact PostG.newL rel post (Rps.ofInts _) q hq⟩
          · simp only [h64, if_false] at post
            exact post.elim
/-! ### calls of built-in functions -/
theorem e_bltB {id : String} {x : PySem.Str} {f : B} {es : List Expr} {is : Es} {e : Expr} {p pos : Pos} (hc : CallR X (.builtin id) (rN X (blt C.rp f))) (hg : Gl X x) (hm : X.mg x = none) (hv : bootBuiltins x = some (.builtin id)) (ho : odd x = false) (ha : PA X (e :: es) (tEs C X W is)) (hp : plains (e :: es) = true) :
    PE X (.Call (.Name x p) (e :: es) [] pos) (tE C X W (.blt f is)) := by
  have hp2 := hp
  simp only [plains, List.all_cons, Bool.and_eq_true] at hp2
  refine imE (pe_callB hc hg hm hv ha (odd_ok ho).2.2 (odd_ok ho).1 (star_one hp2.1) (star_any hp2.2)) fun σ H Q q => ?_
  obtain ⟨m, ρ, μ, rel, loc, p⟩ := q
  simp only [evalE] at p
  exact ⟨m, ρ, μ, rel, loc, p.bind.imp fun xs μ1 m1 H1 x1 rel1 p1 vs rvs => ⟨m1, μ1, xs, rel1, rvs, p1.still (blt_calm _ _ _ _)⟩⟩
theorem e_bltT {id : String} {x : PySem.Str} {f : B} {es : List Expr} {is : Es} {e : Expr} {p pos : Pos} (hc : CallR X (.type id) (rN X (blt C.rp f))) (hg : Gl X x) (hm : X.mg x = none) (hv : bootBuiltins x = some (.type id)) (ho : odd x = false) (ha : PA X (e :: es) (tEs C X W is)) (hp : plains (e :: es) = true) :
    PE X (.Call (.Name x p) (e :: es) [] pos) (tE C X W (.blt f is)) := by
  have hp2 := hp
  simp only [plains, List.all_cons, Bool.and_eq_true] at hp2
  refine imE (pe_callTy hc hg hm hv ha (odd_ok ho).2.2 (odd_ok ho).1 (star_one hp2.1) (star_any hp2.2)) fun σ H Q q => ?_
  obtain ⟨m, ρ, μ, rel, loc, p⟩ := q
  simp only [evalE] at p
  exact ⟨m, ρ, μ, rel, loc, p.bind.imp fun xs μ1 m1 H1 x1 rel1 p1 vs rvs => ⟨m1, μ1, xs, rel1, rvs, p1.still (blt_calm _ _ _ _)⟩⟩
theorem blt_ok (ok : Ok T C X W) {x : PySem.Str} {f : B} {es : List Expr} {is : Es} {e : Expr} {p pos : Pos} (h : bTab.lookup x = some f) (hg : Gl X x) (ho : odd x = false) (ha : PA X (e :: es) (tEs C X W is)) (hp : plains (e :: es) = true) :
    PE X (.Call (.Name x p) (e :: es) [] pos) (tE C X W (.blt f is)) := by
  have hm := of_lookup h
  unfold bTab at hm
  simp only [List.mem_cons, Prod.mk.injEq, List.not_mem_nil, or_false] at hm
  rcases hm with ⟨rfl, rfl⟩ | ⟨rfl, rfl⟩ | ⟨rfl, rfl⟩ | ⟨rfl, rfl⟩ | ⟨rfl, rfl⟩ | ⟨rfl, rfl⟩ | ⟨rfl, rfl⟩ | ⟨rfl, rfl⟩ | ⟨rfl, rfl⟩ | ⟨rfl, rfl⟩ | ⟨rfl, rfl⟩ | ⟨rfl, rfl⟩ | ⟨rfl, rfl⟩ | ⟨rfl, rfl⟩
  · exact e_bltB c_len hg ok.lib.len PySem.boot_len ho ha hp
  · exact e_bltT c_int hg ok.lib.int PyProof.Rows.boot_int ho ha hp
  · exact e_bltT c_str hg ok.lib.str PyProof.Rows.boot_str ho ha hp
  · exact e_bltT c_bool hg ok.lib.bool PyProof.Rows.boot_bool ho ha hp
  · exact e_bltB c_abs hg ok.lib.abs PyProof.Rows.boot_abs ho ha hp
  · exact e_bltT (c_list ok.calm) hg ok.lib.list PyProof.Rows.boot_list ho ha hp
  · exact e_bltT c_tuple hg ok.lib.tuple PyProof.Rows.boot_tuple ho ha hp
  · exact e_bltT c_dict hg ok.lib.dict PyProof.Rows.boot_dict ho ha hp
  · exact e_bltB c_sorted hg ok.lib.sorted PyProof.Rows.boot_sorted ho ha hp
  · exact e_bltB (c_sum ok.calm) hg ok.lib.sum PyProof.Rows.boot_sum ho ha hp
  · exact e_bltB (c_min ok.calm) hg ok.lib.min PyProof.Rows.boot_min ho ha hp
  · exact e_bltB (c_max ok.calm) hg ok.lib.max PyProof.Rows.boot_max ho ha hp
  · exact e_bltB (c_any ok.calm) hg ok.lib.any PyProof.Rows.boot_any ho ha hp
  · exact e_bltB (c_all ok.calm) hg ok.lib.all PyProof.Rows.boot_all ho ha hp
/-! ### isinstance -/
def tyStr : Ty → String
  | .int => "int"
  | .bool => "bool"
  | .str => "str"
  | .list => "list"
  | .tuple => "tuple"
theorem isTy_ok {m : Mp} {H : Hp} {μ : Mem} {v : V} {d : D} {t : Ty} {b : Bool} (rel : RelM X m H μ) (r : Rp X.K m v d) (e : isTy μ d t = some b) : ∃ n, TyX X.K H v (.type n) ∧ kitB n (tyStr t) = some b := by
  cases r with
  | non => exact ⟨"NoneType", .base .non, by cases t <;> cases e <;> decide +kernel⟩
  | bl c => exact ⟨"bool", .base (.bl c), by cases t <;> cases e <;> decide +kernel⟩
  | int c => exact ⟨"int", .base (.int c), by cases t <;> cases e <;> decide +kernel⟩
  | str c h => exact ⟨"str", .base (.str _), by cases t <;> cases e <;> decide +kernel⟩
  | @tup a xs ds h1 h2 =>
    refine ⟨"tuple", ?_, by cases t <;> cases e <;> decide +kernel⟩
    have h := rel.sqT h1
    rcases h with h | h
    · rcases h with h | ⟨o, h⟩
      · exact .base (.tup h)
      · exact .fTuple h
    · obtain ⟨o, its, n, h, c, _⟩ := h
      exact .kTuple h c
  | @lst a xs ds h1 h2 =>
    refine ⟨"list", ?_, by cases t <;> cases e <;> decide +kernel⟩
    rcases rel.sqX h1 with (h | ⟨o, h⟩) | ⟨its, n, h, _⟩
    · exact .base (.lst h)
    · exact .base (.frz h)
    · exact .kList h rfl
  | @ref k a hk =>
    cases ek : μ[k]? with
    | none => simp only [isTy, ek] at e; cases t <;> simp only [isTy, ek] at e <;> cases e
    | some c =>
      obtain ⟨b', hb, cc⟩ := rel.cell k c ek
      rw [hk] at hb
      cases hb
      cases c with
      | lst ds =>
        obtain ⟨xs, h1, _, _⟩ := cc
        exact ⟨"list", .base (.lst h1), by cases t <;> simp only [isTy, ek] at e <;> cases e <;> decide +kernel⟩
      | fz ds =>
        obtain ⟨xs, h1, _⟩ := cc
        exact ⟨"list", .base (.lst (rel.fzH _ _ h1)), by cases t <;> simp only [isTy, ek] at e <;> cases e <;> decide +kernel⟩
      | dict _ => cases t <;> simp only [isTy, ek] at e <;> cases e
      | obj _ _ => cases t <;> simp only [isTy, ek] at e <;> cases e
theorem ty_name (ok : Ok T C X W) {e : Expr} {t : Ty} (h : tyName X.env.scope e = some t) : PE X e (tC (.ty (tyStr t))) ∧ plainE e = true := by
  cases e with
  | Name x pos =>
    simp only [tyName] at h
    split at h
    · next hg =>
      have hg := isGl_ok hg
      have hm := of_lookup h
      unfold tyTab at hm
      simp only [List.mem_cons, Prod.mk.injEq, List.not_mem_nil, or_false] at hm
      rcases hm with ⟨rfl, rfl⟩ | ⟨rfl, rfl⟩ | ⟨rfl, rfl⟩ | ⟨rfl, rfl⟩ | ⟨rfl, rfl⟩
      · exact ⟨pe_bltn hg ok.lib.int PyProof.Rows.boot_int rfl, rfl⟩
      · exact ⟨pe_bltn hg ok.lib.bool PyProof.Rows.boot_bool rfl, rfl⟩
      · exact ⟨pe_bltn hg ok.lib.str PyProof.Rows.boot_str rfl, rfl⟩
      · exact ⟨pe_bltn hg ok.lib.list PyProof.Rows.boot_list rfl, rfl⟩
      · exact ⟨pe_bltn hg ok.lib.tuple PyProof.Rows.boot_tuple rfl, rfl⟩
    · cases h
  | _ => cases h
theorem isi_ok (ok : Ok T C X W) {a e : Expr} {i : E} {t : Ty} {p pos : Pos} (hg : Gl X "isinstance") (ha : PE X a (tE C X W i)) (hp : plainE a = true) (h : tyName X.env.scope e = some t) : PE X (.Call (.Name "isinstance" p) [a, e] [] pos) (tE C X W (.isi i [t])) := by
  obtain ⟨he, hp2⟩ := ty_name ok h
  refine imE (pe_callB call_isi hg ok.lib.isinstance PyProof.Rows.boot_isinstance (pa_cons ha (pa_cons he pa_nil (star_one hp2)) (star_one hp)) (by decide) (by decide) (star_one hp) (star_any (es := [e]) (by simp [plains, hp2]))) fun σ H Q q => ?_
  obtain ⟨m, ρ, μ, rel, loc, pp⟩ := q
  simp only [evalE] at pp
  refine ⟨m, ρ, μ, rel, loc, pp.bind.imp fun x μ1 m1 H1 x1 rel1 p1 v rv => ?_⟩
  simp only [isTys] at p1
  cases ei : isTy μ1 x t with
  | none => rw [ei] at p1; exact p1.elim
  | some b =>
    rw [ei] at p1
    obtain ⟨n, h1, h2⟩ := isTy_ok rel1 rv ei
    refine ⟨v, .ty (tyStr t), .type n, .type (tyStr t), b, rfl, .ty _, h1, kit_ty h2, ?_⟩
    cases b <;> exact PostG.give rel1 p1 (.bl _)
end
end G
/-! The G machine over the hand layer: methods of built-in types, dicts. -/
set_option Elab.async false
set_option linter.all false
set_option maxRecDepth 100000
namespace G
open PySem PySem.Spec L2
section
variable {X : Cx} {T : Tab} {C : Ctx} {W : WX}
/-- a method of values -/
def rM (X : Cx) (fr : Bool) (f : M) : V → List V → Hp → VK → Prop := fun x xs H Q => ∃ m μ d as, RelM X m H μ ∧ Rp X.K m x d ∧ Rps X.K m xs as ∧ Post X (fun _ _ _ _ => False) m H (bmeth fr d f as μ) fun d _ m' H' => ∀ v, Rp X.K m' v d → Q v H'
theorem RelG.freeze {m : Mp} {H : Hp} {μ : Mem} {v : V} {d : D} (fr : Bool) (rel : RelM X m H μ) (r : Rp X.K m v d) : ∃ m', RelM X m' H (if fr then G.frz1 d μ else (d, μ)).2 ∧ Ext m H m' H ∧ Rp X.K m' v (if fr then G.frz1 d μ else (d, μ)).1 := by
  cases fr with
  | false => exact ⟨m, rel, Ext.refl _ _, r⟩
  | true => exact rel.frz1 r
theorem m_append {fr : Bool} : MtR X "list.append" (rM X fr .append) := by
  intro pins s σ H x xs v us Q I rx rxs h
  obtain ⟨m, μ, d, as, rel, rd, ra, post⟩ := h
  cases ra with
  | nil => exact post.elim
  | cons r1 r2 =>
    cases r2 with
    | cons _ _ => exact post.elim
    | nil =>
      rename_i y a
      have post : Post X (fun _ _ _ _ => False) m H (mAppend fr d a μ) fun d _ m' H' => ∀ v, Rp X.K m' v d → Q v H' := post
      unfold mAppend at post
      cases d with
      | ref k =>
        obtain ⟨m1, rel1, x1, ry⟩ := rel.freeze fr r1
        simp only [] at post
        split at post
        · next ds e =>
          split at post
          · next hl =>
            obtain ⟨l, rfl, hk, xs, h1, h2, h3⟩ := rel1.at_ (rd.mono x1.le) e
            obtain ⟨rel2, x2⟩ := rel1.wr (o := .lst (xs ++ [y])) hk h2 (c := .lst (ds ++ [(if fr then frz1 a μ else (a, μ)).1])) ⟨_, upd_same, h2, h3.app (.cons ry .nil)⟩
            exact mt_append pins s σ H _ _ v us Q I rx rxs ⟨l, xs, y, rfl, rfl, h1, by rw [h3.len, ← line_eq]; exact hl, (post.on x1) m1 _ x2 rel2 _ .non⟩
          · exact post.elim
        · exact post.elim
      | _ => exact post.elim
theorem m_pop {fr : Bool} : MtR X "list.pop" (rM X fr .pop) := by
  intro pins s σ H x xs v us Q I rx rxs h
  obtain ⟨m, μ, d, as, rel, rd, ra, post⟩ := h
  cases ra with
  | nil =>
    have post : Post X (fun _ _ _ _ => False) m H (mPop d μ) fun d _ m' H' => ∀ v, Rp X.K m' v d → Q v H' := post
    unfold mPop at post
    cases d with
    | ref k =>
      simp only [] at post
      split at post
      · next ds e =>
        split at post
        · next d e2 =>
          obtain ⟨l, rfl, hk, xs, h1, h2, h3⟩ := rel.at_ rd e
          obtain ⟨rel2, x2⟩ := rel.wr (o := .lst xs.dropLast) hk h2 (c := .lst ds.dropLast) ⟨_, upd_same, h2, h3.dropLast⟩
          obtain ⟨y, hy, ry⟩ := h3.get e2
          exact mt_pop pins s σ H _ _ v us Q I rx rxs ⟨l, xs, y, rfl, rfl, h1, by rw [h3.len]; exact hy, post m _ x2 rel2 _ ry⟩
        · exact post.elim
      · exact post.elim
    | _ => exact post.elim
  | cons r1 r2 =>
    cases r2 with
    | cons _ _ => exact post.elim
    | nil =>
      rename_i y a
      have post : Post X (fun _ _ _ _ => False) m H (mPopAt d a μ) fun d _ m' H' => ∀ v, Rp X.K m' v d → Q v H' := post
      unfold mPopAt at post
      cases d with
      | ref k =>
        simp only [] at post
        split at post
        · next ds e =>
          cases a with
          | int i =>
            simp only [] at post
            split at post
            · next n e1 =>
              split at post
              · next d e2 =>
                obtain ⟨l, rfl, hk, xs, h1, h2, h3⟩ := rel.at_ rd e
                obtain ⟨rel2, x2⟩ := rel.wr (o := .lst (xs.eraseIdx n)) hk h2 (c := .lst (ds.eraseIdx n)) ⟨_, upd_same, h2, h3.erase n⟩
                obtain ⟨w, hy, ry⟩ := h3.get e2
                cases r1
                rw [← h3.len, place_ix] at e1
                obtain ⟨q1, q2, q3, q4⟩ := ixN_seq e1
                obtain ⟨z, _⟩ := I.lstM h1
                have hz := line63
                exact mt_popAt pins s σ H _ _ v us Q I rx rxs ⟨l, xs, i, n, w, rfl, rfl, h1, by omega, by omega, q1, hy, post m _ x2 rel2 _ ry⟩
              · exact post.elim
            · exact post.elim
          | _ => exact post.elim
        · exact post.elim
      | _ => exact post.elim
theorem m_clear {fr : Bool} : MtR X "list.clear" (rM X fr .clear) := by
  intro pins s σ H x xs v us Q I rx rxs h
  obtain ⟨m, μ, d, as, rel, rd, ra, post⟩ := h
  cases ra with
  | nil =>
    have post : Post X (fun _ _ _ _ => False) m H (mClear d μ) fun d _ m' H' => ∀ v, Rp X.K m' v d → Q v H' := post
    unfold mClear at post
    cases d with
    | ref k =>
      simp only [] at post
      split at post
      · next ds e =>
        obtain ⟨l, rfl, hk, xs, h1, h2, h3⟩ := rel.at_ rd e
        obtain ⟨rel2, x2⟩ := rel.wr (o := .lst []) hk h2 (c := .lst []) ⟨_, upd_same, h2, .nil⟩
        exact mt_clear pins s σ H _ _ v us Q I rx rxs ⟨l, xs, rfl, rfl, h1, post m _ x2 rel2 _ .non⟩
      · exact post.elim
    | _ => exact post.elim
  | cons _ _ => exact post.elim
theorem findIx_ok {m : Mp} {a : D} {v : V} (r : Rp X.K m v a) (ha : flat a = true) : ∀ {xs : List V} {ds : List D} {n j : Nat}, Rps X.K m xs ds → ds.all flat = true → findIx a ds n = some j →
    ∃ i z, j = n + i ∧ xs[i]? = some z ∧ eqV z v = true ∧ ∀ (k : Nat) (z' : V), k < i → xs[k]? = some z' → eqV z' v = false
  | _, _, _, _, .nil, _, h => by cases h
  | x :: xs, d :: ds, n, j, .cons r1 r2, hf, h => by
    simp only [List.all_cons, Bool.and_eq_true] at hf
    have q := eqV_eqv r1 r hf.1 ha
    unfold findIx at h
    cases e : d.eqv a with
    | true =>
      simp only [e, if_true] at h
      cases h
      exact ⟨0, x, rfl, rfl, by rw [q, e], fun k z' hk _ => absurd hk (Nat.not_lt_zero k)⟩
    | false =>
      simp only [e] at h
      obtain ⟨i, z, h1, h2, h3, h4⟩ := findIx_ok r ha r2 hf.2 h
      refine ⟨i + 1, z, by omega, by simpa using h2, h3, fun k z' hk hz => ?_⟩
      cases k with
      | zero =>
        simp at hz
        subst hz
        rw [q, e]
      | succ k => exact h4 k z' (by omega) (by simpa using hz)
theorem m_index {fr : Bool} : MtR X "list.index" (rM X fr .lindex) := by
  intro pins s σ H x xs v us Q I rx rxs h
  obtain ⟨m, μ, d, as, rel, rd, ra, post⟩ := h
  cases ra with
  | nil => exact post.elim
  | cons r1 r2 =>
    cases r2 with
    | cons _ _ => exact post.elim
    | nil =>
      rename_i y a
      have post : Post X (fun _ _ _ _ => False) m H (mIndex d a μ) fun d _ m' H' => ∀ v, Rp X.K m' v d → Q v H' := post
      unfold mIndex at post
      cases e : getL μ d with
      | none => rw [e] at post; exact post.elim
      | some ds =>
        simp only [e] at post
        by_cases hf : (flat a && ds.all flat) = true
        · simp only [hf, if_true] at post
          rw [Bool.and_eq_true] at hf
          cases e2 : findIx a ds 0 with
          | none => rw [e2] at post; exact post.elim
          | some j =>
            rw [e2] at post
            obtain ⟨l, zs, rfl, h1, h3⟩ := rel.getL rd e
            obtain ⟨i, z, q1, q2, q3, q4⟩ := findIx_ok r1 hf.1 h3 hf.2 e2
            have q1 : j = i := by omega
            subst q1
            exact mt_index pins s σ H _ _ v us Q I rx rxs ⟨l, zs, y, j, z, rfl, rfl, h1.l, flat_V r1 hf.1, flats_V h3 hf.2, q2, q3, q4, PostG.give rel post (.int _)⟩
        · simp only [hf] at post
          exact post.elim
theorem m_get {fr : Bool} (hu : X.A.units + 64 < cLine) : MtR X "dict.get" (rM X fr .get) := by
  intro pins s σ H x xs v us Q I rx rxs h
  obtain ⟨m, μ, d, as, rel, rd, ra, post⟩ := h
  cases ra with
  | nil => exact post.elim
  | cons r1 r2 =>
    cases r2 with
    | nil => exact post.elim
    | cons r2 r3 =>
      cases r3 with
      | cons _ _ => exact post.elim
      | nil =>
        rename_i y a z b
        have post : Post X (fun _ _ _ _ => False) m H (mGet d a b μ) fun d _ m' H' => ∀ v, Rp X.K m' v d → Q v H' := post
        unfold mGet at post
        cases d with
        | ref k =>
          simp only [] at post
          split at post
          · next kvs e =>
            split at post
            · next q e2 =>
              obtain ⟨l, rfl, hk, ys, h1, h2, h3⟩ := rel.at_ rd e
              cases rx
              obtain ⟨u1, u2, rfl, ru1, ru2⟩ := rxs.two
              have hy := keyOf_V r1 e2
              subst hy
              have hv := kGet_valV q h3
              refine d_get2 (by omega) I (.inl ⟨ys, kk q, .inl h1, rfl, rfl⟩) ru1 ru2 fun w' s' I' rw' => ⟨_, H, I', rw', ?_⟩
              cases e3 : kGet q kvs with
              | none =>
                rw [e3] at hv post
                rw [hv]
                exact PostG.give rel post r2
              | some d =>
                rw [e3] at hv post
                obtain ⟨w, hw, rw1⟩ := hv
                rw [hw]
                exact PostG.give rel post rw1
            · exact post.elim
          · exact post.elim
        | _ => exact post.elim
theorem glue_fold (a : Tx) : ∀ (ts : List Tx) (acc : Tx), (ts.map cs).foldl (fun (z : Array Nat) (p : PySem.Str) => z ++ (cs a).cps ++ p.cps) (cs acc).cps = (cs (acc ++ (ts.map fun t => a ++ t).flatten)).cps
  | [], acc => by simp
  | t :: ts, acc => by
    rw [List.map_cons, List.foldl_cons]
    have e : (cs acc).cps ++ (cs a).cps ++ (cs t).cps = (cs (acc ++ (a ++ t))).cps := by simp [cs]
    rw [e, glue_fold a ts]
    simp
theorem joinT_flat (a : Tx) : ∀ (x : Tx) (ts : List Tx), joinT a (x :: ts) = x ++ (ts.map fun t => a ++ t).flatten
  | x, [] => by simp [joinT]
  | x, y :: ts => by
    simp only [joinT]
    rw [joinT_flat a y ts]
    simp
theorem flat_len (a : Tx) : ∀ ts : List Tx, ((ts.map fun t => a ++ t).flatten).length = (ts.map List.length).sum + ts.length * a.length
  | [] => by simp
  | t :: ts => by
    rw [List.map_cons, List.flatten_cons, List.length_append, flat_len a ts, List.map_cons, List.sum_cons, List.length_append, List.length_cons, Nat.add_mul]
    omega
theorem joinT_len (a : Tx) (ts : List Tx) : (joinT a ts).length ≤ (ts.map List.length).sum + ts.length * a.length := by
  cases ts with
  | nil => exact Nat.zero_le _
  | cons x ts =>
    rw [joinT_flat, List.length_append, flat_len, List.map_cons, List.sum_cons, List.length_cons, Nat.add_mul]
    omega
theorem join_cs (a : Tx) (ts : List Tx) : Txt.join (cs a) (ts.map cs) = cs (joinT a ts) := by
  cases ts with
  | nil => rfl
  | cons x ts =>
    show (⟨((((x :: ts).map cs).drop 1).foldl (fun acc p => acc ++ (cs a).cps ++ p.cps) (((x :: ts).map cs).headD Str.empty).cps)⟩ : PySem.Str) = _
    have e := glue_fold a ts x
    simp only [List.map_cons, List.drop_succ_cons, List.drop_zero, List.headD_cons]
    rw [e, joinT_flat]
theorem m_join {fr : Bool} : MtR X "str.join" (rM X fr .join) := by
  intro pins s σ H x xs v us Q I rx rxs h
  obtain ⟨m, μ, d, as, rel, rd, ra, post⟩ := h
  cases ra with
  | nil => exact post.elim
  | cons r1 r2 =>
    cases r2 with
    | cons _ _ => exact post.elim
    | nil =>
      rename_i y a
      have post : Post X (fun _ _ _ _ => False) m H (mJoin d a μ) fun d _ m' H' => ∀ v, Rp X.K m' v d → Q v H' := post
      unfold mJoin at post
      cases d with
      | str t =>
        simp only [] at post
        cases e : getS μ a with
        | none => rw [e] at post; exact post.elim
        | some ds =>
          simp only [e] at post
          cases e2 : textsOf ds with
          | none => rw [e2] at post; exact post.elim
          | some ts =>
            simp only [e2] at post
            split at post
            · next hl =>
              obtain ⟨l, zs, rfl, h1, h3⟩ := rel.getS r1 e
              have hz := h3.texts e2
              subst hz
              cases rd
              have hsum : ((ts.map cs).map (·.length)).sum + (ts.map cs).length * (cs t).length ≤ 16777216 := by
                rw [List.map_map, List.length_map, cs_len]
                have e : (PySem.Str.length ∘ cs) = (List.length : Tx → Nat) := funext fun x => cs_len x
                rw [e]
                exact hl
              have hlen : (joinT t ts).length ≤ line := by
                exact Nat.le_trans (joinT_len t ts) hl
              refine mt_join pins s σ H _ _ v us Q I rx rxs ⟨cs t, l, ts.map cs, rfl, rfl, ?_, hsum, ?_⟩
              · rw [List.map_map]
                exact h1
              · rw [join_cs]
                exact PostG.give rel post (.str _ hlen)
            · exact post.elim
      | _ => exact post.elim
theorem e_bm1 {C : Ctx} {T id : String} {f : M} {name : PySem.Str} {o e : Expr} {es : List Expr} {i : E} {is : Es} {apos cpos : Pos} (pa : PlainAttrs T) (slot : Slot T name id) (hty : typeOf (.builtin id) = pure (.type "method_descriptor")) (hm : MtR X id (rM X C.fr f))
    (hr : ∀ m H μ v d, RelM X m H μ → Rp X.K m v d → recv f μ d = true → tyV X.K T v H) (ho : PE X o (tE C X W i)) (ha : PA X (e :: es) (tEs C X W is)) (hb : attributeBase o name X.env (eval o X.env) = eval o X.env) (hp : plains (e :: es) = true) (h30 : (e :: es).length < 30) (hl : (apos.endLine == cpos.line) = true) :
    PE X (.Call (.Attribute o name apos) (e :: es) [] cpos) (tE C X W (.bm i f is)) := by
  have hp2 := hp
  simp only [plains, List.all_cons, Bool.and_eq_true] at hp2
  refine imE (pe_bm pa slot hty hm ho ha hb ?_ hl (star_one hp2.1) (star_any hp2.2)) fun σ H Q q => ?_
  · have e0 : backToKw cpos (keywordEach [] X.env) = [] := rfl
    rw [star_all hp, e0]
    simpa using h30
  · obtain ⟨m, ρ, μ, rel, loc, p⟩ := q
    simp only [evalE] at p
    refine ⟨m, ρ, μ, rel, loc, p.bind.imp fun x μ1 m1 H1 x1 rel1 p1 v rv => ?_⟩
    split at p1
    · next hrv =>
      refine ⟨hr _ _ _ _ _ rel1 rv hrv, m1, ρ, μ1, rel1, loc.mono x1.le, p1.bind.imp fun xs μ2 m2 H2 x2 rel2 p2 vs rvs => ?_⟩
      exact ⟨m2, μ2, x, xs, rel2, rv.mono x2.le, rvs, p2.still (bmeth_calm _ _ _ _ _)⟩
    · exact p1.elim
theorem e_bm0 {C : Ctx} {T id : String} {f : M} {name : PySem.Str} {o : Expr} {i : E} {apos cpos : Pos} (pa : PlainAttrs T) (slot : Slot T name id) (hty : typeOf (.builtin id) = pure (.type "method_descriptor")) (hm : MtR X id (rM X C.fr f))
    (hr : ∀ m H μ v d, RelM X m H μ → Rp X.K m v d → recv f μ d = true → tyV X.K T v H) (ho : PE X o (tE C X W i)) (hb : attributeBase o name X.env (eval o X.env) = eval o X.env) (hl : (apos.endLine == cpos.line) = true) :
    PE X (.Call (.Attribute o name apos) [] [] cpos) (tE C X W (.bm i f .nil)) := by
  refine imE (pe_bm0 pa slot hty hm ho hb hl) fun σ H Q q => ?_
  obtain ⟨m, ρ, μ, rel, loc, p⟩ := q
  simp only [evalE, evalEs] at p
  refine ⟨m, ρ, μ, rel, loc, p.bind.imp fun x μ1 m1 H1 x1 rel1 p1 v rv => ?_⟩
  split at p1
  · next hrv =>
    exact ⟨hr _ _ _ _ _ rel1 rv hrv, m1, μ1, x, [], rel1, rv, .nil, PostG.still p1 (bmeth_calm _ _ _ _ _)⟩
  · exact p1.elim
theorem ty_list {m : Mp} {H : Hp} {μ : Mem} {v : V} {d : D} (rel : RelM X m H μ) (r : Rp X.K m v d) (h : (getL μ d).isSome = true) : tyV X.K "list" v H := by
  obtain ⟨ds, e⟩ := Option.isSome_iff_exists.mp h
  obtain ⟨a, xs, rfl, h1, _⟩ := rel.getL r e
  exact .inl ⟨rfl, xs, h1.l⟩
theorem ty_dict {m : Mp} {H : Hp} {μ : Mem} {v : V} {d : D} (rel : RelM X m H μ) (r : Rp X.K m v d) (h : recv .get μ d = true) : tyV X.K "dict" v H := by
  unfold recv at h
  cases d with
  | ref k =>
    simp only [] at h
    split at h
    · next kvs e =>
      obtain ⟨l, rfl, hk, ys, h1, h2, h3⟩ := rel.at_ r e
      exact .inr (.inr (.inl ⟨rfl, .inl ⟨ys, h1⟩⟩))
    · cases h
  | _ => cases h
theorem ty_str {m : Mp} {H : Hp} {μ : Mem} {v : V} {d : D} (rel : RelM X m H μ) (r : Rp X.K m v d) (h : recv .join μ d = true) : tyV X.K "str" v H := by
  cases d with
  | str x => cases r; rfl
  | _ => cases h
/-- o.m(..) of a built-in type -/
theorem bm_ok {C : Ctx} (hu : X.A.units + 64 < cLine) {f : M} {name : PySem.Str} {o : Expr} {es : List Expr} {i : E} {is : Es} {apos cpos : Pos} (hn : mTab.lookup name = some f) (ho : PE X o (tE C X W i)) (hr : ∃ r : Expr → Option E, (∀ e i, r e = some i → PE X e (tE C X W i)) ∧ cEs r es = some is)
    (hb : attributeBase o name X.env (eval o X.env) = eval o X.env) (h30 : es.length < 30) (hl : (apos.endLine == cpos.line) = true) : PE X (.Call (.Attribute o name apos) es [] cpos) (tE C X W (.bm i f is)) := by
  obtain ⟨r, hr, he⟩ := hr
  have ha := args_ok hr he
  have hp := cEs_plain he
  have go : ∀ {T id : String}, PlainAttrs T → Slot T name id → typeOf (.builtin id) = pure (.type "method_descriptor") → MtR X id (rM X C.fr f) → (∀ m H μ v d, RelM X m H μ → Rp X.K m v d → recv f μ d = true → tyV X.K T v H) →
      PE X (.Call (.Attribute o name apos) es [] cpos) (tE C X W (.bm i f is)) := fun {T id} pa slot hty hm hrv => by
    cases es with
    | nil =>
      cases he
      exact e_bm0 pa slot hty hm hrv ho hb hl
    | cons e es => exact e_bm1 pa slot hty hm hrv ho ha hb hp h30 hl
  have hmem := of_lookup hn
  unfold mTab at hmem
  simp only [List.mem_cons, Prod.mk.injEq, List.not_mem_nil, or_false] at hmem
  rcases hmem with ⟨rfl, rfl⟩ | ⟨rfl, rfl⟩ | ⟨rfl, rfl⟩ | ⟨rfl, rfl⟩ | ⟨rfl, rfl⟩ | ⟨rfl, rfl⟩
  · exact go PySem.F.plainAttrs_list PySem.F.slot_list_append PySem.F.type_list_append m_append fun _ _ _ _ _ => ty_list
  · exact go PySem.F.plainAttrs_list PySem.F.slot_list_pop PySem.F.type_list_pop m_pop fun _ _ _ _ _ => ty_list
  · exact go PySem.F.plainAttrs_list PySem.F.slot_list_clear PySem.F.type_list_clear m_clear fun _ _ _ _ _ => ty_list
  · exact go PySem.F.plainAttrs_list PySem.F.slot_list_index PySem.F.type_list_index m_index fun _ _ _ _ _ => ty_list
  · exact go PySem.F.plainAttrs_dict PySem.F.slot_dict_get PySem.F.type_dict_get (m_get hu) fun _ _ _ _ _ => ty_dict
  · exact go PySem.F.plainAttrs_str PySem.F.slot_str_join PySem.F.type_str_join m_join fun _ _ _ _ _ => ty_str
theorem base_ok {o : Expr} {m : PySem.Str} {env : PySem.Env} (h : noSuper o = true) (w : Sem Value) : attributeBase o m env w = w := by
  unfold attributeBase
  split
  · cases h
  · rfl
end
end G
/-! The G machine over the hand layer: displays of dicts, what is walked. -/
set_option Elab.async false
set_option linter.all false
set_option maxRecDepth 100000
namespace G
open PySem PySem.Spec L2
/-! ### objects outside the store -/
section
variable {K : PySem.W.Frag} {mg : PySem.Str → Option Value} {m m' : Mp} {H H' : Hp} {μ : Mem} {p : Addr} {o : HO}
/-- p is no cell and not frozen -/
def Apart (m : Mp) (p : Addr) : Prop := (∀ k, m.al k ≠ some p) ∧ m.fz p = none
theorem RelG.out (rel : RelG K mg m H μ) (h : H p = none) : Apart m p := by
  refine ⟨fun k e => ?_, ?_⟩
  · have hk := rel.top k p e
    obtain ⟨b, hb, c⟩ := rel.cell k μ[k] (List.getElem?_eq_getElem hk)
    rw [e] at hb
    cases hb
    cases e2 : μ[k] with
    | lst ds => rw [e2] at c; obtain ⟨_, q, _⟩ := c; rw [h] at q; cases q
    | fz ds => rw [e2] at c; obtain ⟨_, q, _⟩ := c; have := rel.fzH _ _ q; rw [h] at this; cases this
    | dict ds => rw [e2] at c; obtain ⟨_, q, _⟩ := c; rw [h] at q; cases q
    | obj c' ds => rw [e2] at c; obtain ⟨_, _, _, _, q, _⟩ := c; rw [h] at q; cases q
  · cases e : m.fz p with
    | none => rfl
    | some q => have := rel.fzH _ _ e; rw [h] at this; cases this
theorem CellG.at (l : Le m m') (hf : m.fz p = none → m'.fz p = none) : ∀ {c : Cell}, CellG K mg m H p c → H' p = H p → CellG K mg m' H' p c
  | .lst ds, ⟨xs, h1, h2, h3⟩, e => ⟨xs, e.trans h1, hf h2, h3.mono l⟩
  | .fz ds, ⟨xs, h1, h3⟩, e => ⟨xs, l.fz _ _ h1, h3.mono l⟩
  | .dict kvs, ⟨ys, h1, h2, h3⟩, e => ⟨ys, e.trans h1, hf h2, Paired.imp h3 fun _ _ q => ⟨q.1, q.2.1, q.2.2.mono l⟩⟩
  | .obj c fs, ⟨C, dx, ys, h0, h1, h2, h3⟩, e => ⟨C, dx, ys, h0, e.trans h1, hf h2, Paired.imp h3 fun _ _ q => ⟨q.1, q.2.mono l⟩⟩
theorem RelG.junk (rel : RelG K mg m H μ) (h : Apart m p) (o : HO) : RelG K mg m (upd H p o) μ := by
  refine ⟨fun a q e => ?_, fun k c e => ?_, rel.inj, rel.top⟩
  · have ne : a ≠ p := fun z => by rw [z, h.2] at e; cases e
    rw [upd_ne ne]
    exact rel.fzH a q e
  · obtain ⟨a, ha, cc⟩ := rel.cell k c e
    have ne : a ≠ p := fun z => h.1 k (by rw [← z]; exact ha)
    exact ⟨a, ha, cc.at (Le.refl m) (fun z => z) (upd_ne ne)⟩
theorem Ext.junk (x : Ext m H m' H') (h : H p = none) (o : HO) : Ext m H m' (upd H' p o) := by
  refine ⟨x.le, x.alN, x.fzN, fun a q e n => ?_, fun a e => ?_⟩
  · have ne : a ≠ p := fun z => by rw [z, h] at e; cases e
    rw [upd_ne ne]
    exact x.keep a q e n
  · by_cases z : a = p
    · rw [z, upd_same]; intro q; cases q
    · rw [upd_ne z]; exact x.dom a e
/-- it stays outside -/
theorem Ext.stays (x : Ext m H m' H') (h : Apart m p) (e : H p = some o) : Apart m' p ∧ H' p = some o := by
  refine ⟨⟨fun k q => ?_, ?_⟩, x.keep p o e h.1⟩
  · rcases x.alN k p q with z | z
    · exact h.1 k z
    · rw [e] at z; cases z
  · cases q : m'.fz p with
    | none => rfl
    | some u =>
      rcases x.fzN p u q with z | z | ⟨k, z⟩
      · rw [h.2] at z; cases z
      · rw [e] at z; cases z
      · exact absurd z (h.1 k)
theorem RelG.le_add (rel : RelG K mg m H μ) (p : Addr) : Le m (m.add μ.length p) := ⟨fun k b h => by
    have := rel.top k b h
    show (if k = μ.length then some p else m.al k) = some b
    rw [if_neg (by omega)]
    exact h, fun _ _ h => h⟩
/-- it becomes a cell -/
theorem RelG.adopt {c : Cell} (rel : RelG K mg m H μ) (h : Apart m p) (hc : CellG K mg (m.add μ.length p) (upd H p o) p c) : RelG K mg (m.add μ.length p) (upd H p o) (μ ++ [c]) := by
  have l := rel.le_add p
  refine ⟨fun b q e => ?_, fun k q e => ?_, fun j k b h1 h2 => ?_, fun k b e => ?_⟩
  · have ne : b ≠ p := fun z => by rw [z] at e; have := h.2; rw [show m.fz p = some q from e] at this; cases this
    rw [upd_ne ne]
    exact rel.fzH b q e
  · by_cases hk : k < μ.length
    · rw [List.getElem?_append_left hk] at e
      obtain ⟨b, hb, cc⟩ := rel.cell k q e
      have ne : b ≠ p := fun z => h.1 k (by rw [← z]; exact hb)
      exact ⟨b, l.al _ _ hb, cc.at l (fun z => z) (upd_ne ne)⟩
    · have hk2 : k = μ.length := by
        have := (List.getElem?_eq_some_iff.mp e).1
        simp only [List.length_append, List.length_cons, List.length_nil] at this
        omega
      subst hk2
      rw [List.getElem?_append_right (Nat.le_refl _)] at e
      simp at e
      subst e
      exact ⟨p, if_pos rfl, hc⟩
  · have h1 : (if j = μ.length then some p else m.al j) = some b := h1
    have h2 : (if k = μ.length then some p else m.al k) = some b := h2
    by_cases e1 : j = μ.length
    · rw [if_pos e1] at h1
      cases h1
      by_cases e2 : k = μ.length
      · omega
      · rw [if_neg e2] at h2
        exact absurd h2 (h.1 k)
    · rw [if_neg e1] at h1
      by_cases e2 : k = μ.length
      · rw [if_pos e2] at h2
        cases h2
        exact absurd h1 (h.1 j)
      · rw [if_neg e2] at h2
        exact rel.inj j k b h1 h2
  · have e : (if k = μ.length then some p else m.al k) = some b := e
    rw [List.length_append]
    by_cases e1 : k = μ.length
    · rw [e1]; simp
    · rw [if_neg e1] at e
      have := rel.top k b e
      simp only [List.length_cons, List.length_nil]
      omega
theorem Ext.adopt (x : Ext m H m' H') (rel : RelG K mg m' H' μ) (h : H p = none) (o : HO) : Ext m H (m'.add μ.length p) (upd H' p o) := by
  have y := x.junk h o
  refine ⟨x.le.trans (rel.le_add p), fun k a e => ?_, x.fzN, y.keep, y.dom⟩
  have e : (if k = μ.length then some p else m'.al k) = some a := e
  split at e
  · cases e
    exact .inr h
  · exact x.alN k a e
end
/-! ### dicts -/
section
variable {X : Cx} {T : Tab} {C : Ctx} {W : WX}
theorem kSet_put {K : PySem.W.Frag} {m : Mp} {k : Key} {v : V} {d : D} (rv : Rp K m v d) (hb : keyB k) : ∀ {ys : List (L2.Key × V)} {kvs : List (Key × D)}, KRp K m ys kvs → KRp K m (ys.map fun kv => if kv.1 = kk k then (kv.1, v) else kv) (kSet k d kvs)
  | _, _, .nil => .nil
  | (a, w) :: ys, (b, e) :: kvs, .cons ⟨r1, r3, r2⟩ t => by
    have r1 : a = kk b := r1
    subst r1
    refine .cons ?_ (kSet_put rv hb t)
    by_cases h : b = k
    · subst h
      simp only [if_true]
      exact ⟨trivial, hb, rv⟩
    · have ne : ¬ kk b = kk k := fun z => h (kk_inj z)
      simp only [if_neg h, if_neg ne]
      exact ⟨trivial, r3, r2⟩
theorem kPut_put {K : PySem.W.Frag} {m : Mp} {k : Key} {v : V} {d : D} (rv : Rp K m v d) (hb : keyB k) {ys : List (L2.Key × V)} {kvs : List (Key × D)} (r : KRp K m ys kvs) : KRp K m (putK ys (kk k) v) (kPut k d kvs) := by
  have h := kGet_valV k r
  unfold putK kPut
  rw [valV_any]
  cases e : kGet k kvs with
  | none =>
    rw [e] at h
    rw [h]
    simp only [Option.isSome_none]
    have app : ∀ {as : List (L2.Key × V)} {bs : List (Key × D)}, KRp K m as bs → KRp K m (as ++ [(kk k, v)]) (bs ++ [(k, d)]) := fun {as bs} q => by
      induction q with
      | nil => exact .cons ⟨rfl, hb, rv⟩ .nil
      | cons a _ ih => exact .cons a ih
    exact app r
  | some w =>
    rw [e] at h
    obtain ⟨z, hz, _⟩ := h
    rw [hz]
    simp only [Option.isSome_some, if_true]
    exact kSet_put rv hb r
theorem kDel_drop {K : PySem.W.Frag} {m : Mp} {k : Key} : ∀ {ys : List (L2.Key × V)} {kvs : List (Key × D)}, KRp K m ys kvs → KRp K m (dropK ys (kk k)) (kDel k kvs)
  | _, _, .nil => .nil
  | (a, w) :: ys, (b, e) :: kvs, .cons ⟨r1, r3, r2⟩ t => by
    have r1 : a = kk b := r1
    subst r1
    have ih := kDel_drop (k := k) t
    unfold dropK at *
    by_cases h : b = k
    · subst h
      simp only [kDel, if_true]
      rw [List.filter_cons_of_neg (by simp)]
      exact ih
    · have ne : ¬ kk b = kk k := fun z => h (kk_inj z)
      simp only [kDel, if_neg h]
      rw [List.filter_cons_of_pos (by simp [ne])]
      exact .cons ⟨rfl, r3, r2⟩ ih
theorem merge_put {K : PySem.W.Frag} {m : Mp} : ∀ {vs : List (L2.Key × V)} {ds : List (Key × D)} {ys : List (L2.Key × V)} {kvs : List (Key × D)}, KRp K m vs ds → KRp K m ys kvs → KRp K m (mergeK ys vs) (ds.foldl (fun acc p => kPut p.1 p.2 acc) kvs)
  | _, _, _, _, .nil, r => r
  | (a, w) :: vs, (b, e) :: ds, ys, kvs, .cons ⟨r1, r3, r2⟩ t, r => by
    have r1 : a = kk b := r1
    subst r1
    show KRp K m (mergeK (putK ys (kk b) w) vs) (ds.foldl _ (kPut b e kvs))
    exact merge_put t (kPut_put r2 r3 r)
def trsP (C : Ctx) (X : Cx) (W : WX) : Ps → List (TE × TE)
  | .nil => []
  | .cons k v r => (tE C X W k, tE C X W v) :: trsP C X W r
theorem pairs_ok {C : Ctx} {σ : L2.St} {Q : List (V × V) → Hp → Prop} {ρ : Env} : ∀ {ps : Ps} {m : Mp} {H : Hp} {μ : Mem}, RelM X m H μ → Loc X m σ ρ →
    Post X (xw X W σ) m H (evalPs C ps ρ μ) (fun kvs _ m' H' => ∀ vs : List (L2.Key × V), KRp X.K m' vs kvs → Q (vs.map fun kv => (kV kv.1, kv.2)) H') → tPairs (trsP C X W ps) σ H Q
  | .nil, m, H, μ, rel, loc, p => by
    simp only [evalPs] at p
    exact p m H (Ext.refl _ _) rel [] .nil
  | .cons k v r, m, H, μ, rel, loc, p => by
    simp only [evalPs] at p
    refine ⟨m, ρ, μ, rel, loc, p.bind.imp fun x μ1 m1 H1 x1 rel1 p1 w rw => ?_⟩
    refine ⟨m1, ρ, μ1, rel1, loc.mono x1.le, p1.bind.imp fun y μ2 m2 H2 x2 rel2 p2 u ru => ?_⟩
    cases e : keyOf x with
    | none => rw [e] at p2; exact p2.elim
    | some q =>
      rw [e] at p2
      have rw2 := rw.mono x2.le
      have hv := keyOf_V rw2 e
      subst hv
      refine pairs_ok (ps := r) rel2 (loc.mono (x1.le.trans x2.le)) (p2.bind.imp fun kvs μ3 m3 H3 x3 rel3 p3 vs rvs => ?_)
      exact p3 m3 H3 (Ext.refl _ _) rel3 ((kk q, u) :: vs) (.cons ⟨rfl, keyOf_B rw2 e, ru.mono x3.le⟩ rvs)
theorem pps_ok {pos : Pos} {r : Expr → Option E} (hr : ∀ e i, r e = some i → PE X e (tE C X W i)) : ∀ {ks : List (Option Expr)} {vs : List Expr} {ps : Ps}, cPs r ks vs = some ps → PPs X pos ks vs (trsP C X W ps) ∧ ks.all (·.isSome) = true ∧ ks.length = vs.length
  | [], [], _, h => by
    cases h
    exact ⟨pps_nil, rfl, rfl⟩
  | some k :: ks, v :: vs, ps, h => by
    unfold cPs at h
    split at h
    · next a b ha hb =>
      simp only [Option.map_eq_some_iff] at h
      obtain ⟨qs, h1, rfl⟩ := h
      obtain ⟨q1, q2, q3⟩ := pps_ok hr h1
      exact ⟨pps_cons (hr _ _ ha) (hr _ _ hb) q1, by simpa using q2, by simp [q3]⟩
    · cases h
  | [], _ :: _, _, h => by cases h
  | none :: _, _, _, h => by
    unfold cPs at h
    cases h
  | some _ :: _, [], _, h => by cases h
theorem dict_len {r : Expr → Option E} {C : Ctx} {ρ : Env} : ∀ {ks : List (Option Expr)} {vs : List Expr} {ps : Ps} {μ μ' : Mem} {kvs : List (Key × D)}, cPs r ks vs = some ps → evalPs C ps ρ μ = .ok kvs μ' → kvs.length = ks.length
  | [], [], _, _, _, _, h, e => by
    cases h
    simp only [evalPs] at e
    cases e
    rfl
  | some k :: ks, v :: vs, ps, μ, μ', kvs, h, e => by
    unfold cPs at h
    split at h
    · next a b ha hb =>
      simp only [Option.map_eq_some_iff] at h
      obtain ⟨qs, h1, rfl⟩ := h
      simp only [evalPs] at e
      cases e1 : evalE C a ρ μ with
      | bad => rw [e1] at e; cases e
      | ex c m1 => rw [e1] at e; cases e
      | ok x μ1 =>
        rw [e1] at e
        simp only [R.bind] at e
        cases e2 : evalE C b ρ μ1 with
        | bad => rw [e2] at e; cases e
        | ex c m1 => rw [e2] at e; cases e
        | ok y μ2 =>
          rw [e2] at e
          simp only [] at e
          cases e3 : keyOf x with
          | none => rw [e3] at e; cases e
          | some q =>
            rw [e3] at e
            simp only [] at e
            cases e4 : evalPs C qs ρ μ2 with
            | bad => rw [e4] at e; cases e
            | ex c m1 => rw [e4] at e; cases e
            | ok xs μ3 =>
              rw [e4] at e
              simp only [] at e
              cases e
              simp [dict_len h1 e4]
    · cases h
  | [], _ :: _, _, _, _, _, h, _ => by cases h
  | none :: _, _, _, _, _, _, h, _ => by
    unfold cPs at h
    cases h
  | some _ :: _, [], _, _, _, _, h, _ => by cases h
theorem e_dict {r : Expr → Option E} (hr : ∀ e i, r e = some i → PE X e (tE C X W i)) {ks : List (Option Expr)} {vs : List Expr} {ps : Ps} {pos : Pos} (h : cPs r ks vs = some ps) (h15 : ks.length ≤ 15) : PE X (.Dict ks vs pos) (tE C X W (.dict ps)) := by
  obtain ⟨q1, q2, q3⟩ := pps_ok (pos := pos) hr h
  cases ks with
  | nil =>
    cases vs with
    | cons _ _ => cases h
    | nil =>
      cases h
      refine imE pe_dnewK fun σ H Q q => ?_
      obtain ⟨m, ρ, μ, rel, loc, p⟩ := q
      simp only [evalE, evalPs] at p
      exact PostG.newD (kvs := []) rel p .nil
  | cons k ks =>
    refine imE (pe_disp q1 q2 q3 (by simp) h15) fun σ H Q q p hp => ?_
    obtain ⟨m, ρ, μ, rel, loc, pp⟩ := q
    simp only [evalE] at pp
    have ho := rel.out hp
    refine pairs_ok (rel.junk ho _) loc ?_
    have pp2 := pp.bind
    cases ee : evalPs C ps ρ μ with
    | bad => rw [ee] at pp2; exact pp2.elim
    | ex c μ1 =>
      rw [ee] at pp2
      exact fun m1 H1 x1 rel1 => pp2 m1 H1 ((Ext.junk (Ext.refl m H) hp _).trans x1) rel1
    | ok kvs μ1 =>
      have hl := dict_len h ee
      rw [ee] at pp
      intro m1 H1 x1 rel1 vs rvs
      have x0 := (Ext.junk (Ext.refl m H) hp (.dK [])).trans x1
      obtain ⟨o1, e1⟩ := x1.stays ho upd_same
      refine ⟨e1, vs, rfl, ?_, ?_⟩
      · rw [rvs.length, hl]
        exact h15
      · have rel2 := rel1.adopt (o := .dK (mergeK [] vs)) (c := .dict (kvs.foldl (fun acc p => kPut p.1 p.2 acc) [])) o1 ⟨_, upd_same, o1.2, Paired.imp (merge_put rvs .nil) fun _ _ q => ⟨q.1, q.2.1, q.2.2.mono (rel1.le_add p)⟩⟩
        exact pp _ _ (x0.adopt rel1 hp _) rel2 _ (.ref (if_pos rfl))
end
end G
/-! The G machine over the hand layer: what is walked. -/
set_option Elab.async false
set_option linter.all false
set_option maxRecDepth 100000
namespace G
open PySem PySem.Spec L2
/-- the iterator J gives w's items -/
def ItOk (K : PySem.W.Frag) (mg : PySem.Str → Option Value) (w : Walk) (J : It) (m1 : Mp) (H1 : Hp) : Prop := ∀ (i : Nat) (H2 : Hp) (m2 : Mp) (μ2 : Mem), Ext m1 H1 m2 H2 → RelG K mg m2 H2 μ2 → w.keep μ2 = true →
  (i = w.items.length → J.stop i H2) ∧ ∀ d, w.items[i]? = some d → J.go i H2 ∧ ∀ x H3, J.yld i H2 x H3 → ∃ m3, Ext m2 H2 m3 H3 ∧ RelG K mg m3 H3 μ2 ∧ Rp K m3 x d
section
variable {X : Cx} {T : Tab} {C : Ctx} {W : WX}
def tI (C : Ctx) (X : Cx) (W : WX) (i : I) : TI := fun σ H R => ∃ m ρ μ, RelM X m H μ ∧ Loc X m σ ρ ∧ Post X (xw X W σ) m H (walkI C i ρ μ) fun w _ m' H' => ∀ J, ItOk X.K X.mg w J m' H' → R J H'
theorem imI {tg e : Expr} {t t' : TI} (h : PI X tg e t) (i : ∀ σ H Q, t' σ H Q → t σ H Q) : PI X tg e t' := ⟨fun pins s σ H Q I q => h.run pins s σ H Q I (i σ H Q q)⟩
theorem orI {tg e : Expr} {t t' : TI} (h : PI X tg e t) (h' : PI X tg e t') : PI X tg e fun σ H R => t σ H R ∨ t' σ H R := ⟨fun pins s σ H Q I q => q.elim (h.run pins s σ H Q I) (h'.run pins s σ H Q I)⟩
theorem it_list {m : Mp} {H : Hp} {w : Walk} {d : D} {a : Addr} (r : Rp X.K m (.ref a) d) (hk : ∀ μ, w.keep μ = true → getL μ d = some w.items) : ItOk X.K X.mg w (Itl X.K a) m H := by
  intro i H2 m2 μ2 x2 rel2 k
  obtain ⟨a', xs, e, h1, h3⟩ := rel2.getL (r.mono x2.le) (hk μ2 k)
  cases e
  refine ⟨fun e => ⟨xs, h1.l, by rw [h3.len, e]; exact Nat.le_refl _⟩, fun d' hd => ?_⟩
  obtain ⟨v, hv, rv⟩ := h3.get hd
  refine ⟨⟨xs, v, h1.l, hv⟩, fun x H3 ⟨e, y⟩ => ?_⟩
  subst e
  have := y xs h1.l
  rw [hv] at this
  cases this
  exact ⟨m2, Ext.refl _ _, rel2, rv⟩
theorem it_tup {m : Mp} {H : Hp} {w : Walk} {a : Addr} (r : Rp X.K m (.ref a) (.tup w.items)) : ItOk X.K X.mg w (Itt X.K a) m H := by
  intro i H2 m2 μ2 x2 rel2 k
  obtain ⟨a', xs, e, h1, h3⟩ := rel2.getT (r.mono x2.le)
  cases e
  refine ⟨fun e => ⟨xs, h1, by rw [h3.len, e]; exact Nat.le_refl _⟩, fun d' hd => ?_⟩
  obtain ⟨v, hv, rv⟩ := h3.get hd
  refine ⟨⟨xs, v, h1, hv⟩, fun x H3 ⟨e, y⟩ => ?_⟩
  subst e
  have := y xs h1
  rw [hv] at this
  cases this
  exact ⟨m2, Ext.refl _ _, rel2, rv⟩
theorem it_str {m : Mp} {H : Hp} {w : Walk} {z : Tx} (hw : w.items = z.map fun c => D.str [c]) : ItOk X.K X.mg w (Its (cs z)) m H := by
  intro i H2 m2 μ2 x2 rel2 k
  rw [hw]
  have hl : (cs z).cps.size = z.length := by simp [cs]
  refine ⟨fun e => by show (cs z).cps.size ≤ i; rw [hl, e, List.length_map]; exact Nat.le_refl _, fun d' hd => ?_⟩
  rw [List.getElem?_map, Option.map_eq_some_iff] at hd
  obtain ⟨c, hc, rfl⟩ := hd
  have hi := (List.getElem?_eq_some_iff.mp hc).1
  refine ⟨by show i < (cs z).cps.size; rw [hl]; exact hi, fun x H3 ⟨e, c', hc', ex⟩ => ?_⟩
  subst e ex
  have e1 : (cs z).cps[i]? = some c.toNat := by
    show (z.map Char.toNat).toArray[i]? = _
    rw [List.getElem?_toArray, List.getElem?_map, hc]
    rfl
  rw [e1] at hc'
  cases hc'
  exact ⟨m2, Ext.refl _ _, rel2, .str [c] (by show 1 ≤ 16777216; decide)⟩
theorem rangeL_at {lo hi : Int} {i : Nat} {d : D} (h : (rangeL lo hi)[i]? = some d) : i < (hi - lo).toNat ∧ d = .int (lo + (i : Int)) := by
  unfold rangeL at h
  rw [List.getElem?_map, Option.map_eq_some_iff] at h
  obtain ⟨j, hj, rfl⟩ := h
  obtain ⟨h1, h2⟩ := List.getElem?_eq_some_iff.mp hj
  rw [List.getElem_range] at h2
  rw [List.length_range] at h1
  exact ⟨h1, by rw [h2]⟩
theorem it_range {m : Mp} {H : Hp} {w : Walk} {lo hi : Int} (hw : w.items = rangeL lo hi) : ItOk X.K X.mg w (Itr lo (hi - lo).toNat) m H := by
  intro i H2 m2 μ2 x2 rel2 k
  rw [hw]
  refine ⟨fun e => by show (hi - lo).toNat ≤ i; rw [e]; simp [rangeL], fun d' hd => ?_⟩
  obtain ⟨h1, rfl⟩ := rangeL_at hd
  refine ⟨h1, fun x H3 ⟨e, ex⟩ => ?_⟩
  subst e ex
  exact ⟨m2, Ext.refl _ _, rel2, .int _⟩
theorem numbered_at : ∀ {ds : List D} {n i : Nat} {d : D}, (numbered n ds)[i]? = some d → ∃ e, ds[i]? = some e ∧ d = .tup [.int ((n + i : Nat) : Int), e]
  | [], _, _, _, h => by simp [numbered] at h
  | e :: ds, n, 0, d, h => by
    simp [numbered] at h
    exact ⟨e, rfl, h.symm⟩
  | e :: ds, n, i + 1, d, h => by
    simp only [numbered, List.getElem?_cons_succ] at h
    obtain ⟨f, h1, h2⟩ := numbered_at h
    exact ⟨f, by simpa using h1, by rw [h2]; congr 4; omega⟩
theorem numbered_len : ∀ (n : Nat) (ds : List D), (numbered n ds).length = ds.length
  | _, [] => rfl
  | n, d :: ds => by simp [numbered, numbered_len (n + 1) ds]
theorem it_enum {m : Mp} {H : Hp} {w : Walk} {d : D} {ds : List D} {a : Addr} (r : Rp X.K m (.ref a) d) (hw : w.items = numbered 0 ds) (hk : ∀ μ, w.keep μ = true → getL μ d = some ds) : ItOk X.K X.mg w (Ite X.K a) m H := by
  intro i H2 m2 μ2 x2 rel2 k
  obtain ⟨a', xs, e, h1, h3⟩ := rel2.getL (r.mono x2.le) (hk μ2 k)
  cases e
  rw [hw]
  refine ⟨fun e => ⟨xs, h1.l, by rw [h3.len, e, numbered_len]; exact Nat.le_refl _⟩, fun d' hd => ?_⟩
  obtain ⟨e, he, rfl⟩ := numbered_at hd
  obtain ⟨v, hv, rv⟩ := h3.get he
  refine ⟨⟨xs, v, h1.l, hv⟩, fun x H3 ⟨t, y, ex, hn, eH, hy⟩ => ?_⟩
  subst ex eH
  have := hy xs h1.l
  rw [hv] at this
  cases this
  obtain ⟨q1, q2, _⟩ := rel2.newF (o := .tup [.int (i : Nat), v]) hn
  refine ⟨_, q2, q1, .tup (SqT.of upd_same) (.cons ?_ (.cons (rv.mono q2.le) .nil))⟩
  rw [Nat.zero_add]
  exact .int _
theorem pairUp_at : ∀ {xs ys : List D} {i : Nat} {d : D}, (pairUp xs ys)[i]? = some d → ∃ e f, xs[i]? = some e ∧ ys[i]? = some f ∧ d = .tup [e, f]
  | [], _, _, _, h => by simp [pairUp] at h
  | _ :: _, [], _, _, h => by simp [pairUp] at h
  | x :: xs, y :: ys, 0, d, h => by
    simp [pairUp] at h
    exact ⟨x, y, rfl, rfl, h.symm⟩
  | x :: xs, y :: ys, i + 1, d, h => by
    simp only [pairUp, List.getElem?_cons_succ] at h
    obtain ⟨e, f, h1, h2, h3⟩ := pairUp_at h
    exact ⟨e, f, by simpa using h1, by simpa using h2, h3⟩
theorem pairUp_len : ∀ (xs ys : List D), (pairUp xs ys).length = min xs.length ys.length
  | [], _ => by simp [pairUp]
  | _ :: _, [] => by simp [pairUp]
  | x :: xs, y :: ys => by
    simp only [pairUp, List.length_cons, pairUp_len xs ys]
    omega
theorem it_zip {m : Mp} {H : Hp} {w : Walk} {d e : D} {xs ys : List D} {a b : Addr} (ra : Rp X.K m (.ref a) d) (rb : Rp X.K m (.ref b) e) (hw : w.items = pairUp xs ys) (hk : ∀ μ, w.keep μ = true → getL μ d = some xs ∧ getL μ e = some ys) : ItOk X.K X.mg w (Itz X.K a b) m H := by
  intro i H2 m2 μ2 x2 rel2 k
  obtain ⟨a', vs, e1, h1, h3⟩ := rel2.getL (ra.mono x2.le) (hk μ2 k).1
  cases e1
  obtain ⟨b', us, e2, h4, h5⟩ := rel2.getL (rb.mono x2.le) (hk μ2 k).2
  cases e2
  rw [hw]
  refine ⟨fun e => ⟨vs, us, h1.l, h4.l, by rw [h3.len, h5.len, e, pairUp_len]; omega⟩, fun d' hd => ?_⟩
  obtain ⟨p, q, hp, hq, rfl⟩ := pairUp_at hd
  obtain ⟨v, hv, rv⟩ := h3.get hp
  obtain ⟨u, hu, ru⟩ := h5.get hq
  refine ⟨⟨vs, us, v, u, h1.l, h4.l, hv, hu⟩, fun x H3 ⟨t, y, z, ex, hn, eH, hy, hz⟩ => ?_⟩
  subst ex eH
  have q1 := hy vs h1.l
  rw [hv] at q1
  cases q1
  have q2 := hz us h4.l
  rw [hu] at q2
  cases q2
  obtain ⟨q1, q2, _⟩ := rel2.newF (o := .tup [v, u]) hn
  exact ⟨_, q2, q1, .tup (SqT.of upd_same) (.cons (rv.mono q2.le) (.cons (ru.mono q2.le) .nil))⟩
theorem it_rev {m : Mp} {H : Hp} {w : Walk} {d : D} {ds : List D} {a : Addr} (r : Rp X.K m (.ref a) d) (hw : w.items = ds.reverse) (hk : ∀ μ, w.keep μ = true → getL μ d = some ds) : ItOk X.K X.mg w (Itv X.K a ds.length) m H := by
  intro i H2 m2 μ2 x2 rel2 k
  obtain ⟨a', xs, e, h1, h3⟩ := rel2.getL (r.mono x2.le) (hk μ2 k)
  cases e
  rw [hw]
  refine ⟨fun e => by show ds.length ≤ i; rw [e, List.length_reverse]; exact Nat.le_refl _, fun d' hd => ?_⟩
  have hi : i < ds.length := by
    have := (List.getElem?_eq_some_iff.mp hd).1
    rwa [List.length_reverse] at this
  rw [List.getElem?_reverse hi] at hd
  obtain ⟨v, hv, rv⟩ := h3.get hd
  refine ⟨⟨hi, xs, v, h1.l, hv⟩, fun x H3 ⟨e, y⟩ => ?_⟩
  subst e
  have := y xs h1.l
  rw [hv] at this
  cases this
  exact ⟨m2, Ext.refl _ _, rel2, rv⟩
theorem PostG.here {α : Type} {Xc : String → Mem → Mp → Hp → Prop} {m : Mp} {H : Hp} {μ : Mem} {a : α} {k : α → Mem → Mp → Hp → Prop} (p : Post X Xc m H (.ok a μ) k) (rel : RelM X m H μ) : k a μ m H := p m H (Ext.refl _ _) rel
/-- a list, a tuple, a text -/
theorem i_seq {tg e : Expr} {i : E} (he : PE X e (tE C X W i)) : PI X tg e (tI C X W (.seq i)) := by
  refine imI (orI (pi_list he) (orI (pi_tup he) (pi_str he))) fun σ H R q => ?_
  obtain ⟨m, ρ, μ, rel, loc, p⟩ := q
  simp only [walkI] at p
  have pb := p.bind
  cases ee : evalE C i ρ μ with
  | bad => rw [ee] at pb; exact pb.elim
  | ex c μ1 =>
    refine .inl ⟨m, ρ, μ, rel, loc, ?_⟩
    rw [ee] at pb ⊢
    exact pb
  | ok d μ1 =>
    have go : ∀ (G : V → Hp → Prop), (∀ m1 H1 v, Ext m H m1 H1 → RelM X m1 H1 μ1 → Rp X.K m1 v d → Post X (xw X W σ) m1 H1 (optW (walkSeq μ1 d) μ1) (fun w _ m' H' => ∀ J, ItOk X.K X.mg w J m' H' → R J H') → G v H1) →
        ∃ m ρ μ, RelM X m H μ ∧ Loc X m σ ρ ∧ Post X (xw X W σ) m H (evalE C i ρ μ) fun d _ m' H' => ∀ v, Rp X.K m' v d → G v H' := fun G hG => by
      refine ⟨m, ρ, μ, rel, loc, ?_⟩
      rw [ee] at pb ⊢
      exact fun m1 H1 x1 rel1 v rv => hG m1 H1 v x1 rel1 rv (pb m1 H1 x1 rel1)
    have stuck : ∀ (G : V → Hp → Prop), walkSeq μ1 d = none → ∃ m ρ μ, RelM X m H μ ∧ Loc X m σ ρ ∧ Post X (xw X W σ) m H (evalE C i ρ μ) fun d _ m' H' => ∀ v, Rp X.K m' v d → G v H' := fun G hn => go G fun m1 H1 v _ _ _ p1 => by
      rw [hn] at p1
      exact p1.elim
    have listy : ∀ ds : List D, walkSeq μ1 d = some ⟨ds, fun μ => decide (getL μ d = some ds)⟩ ∨ walkSeq μ1 d = some ⟨ds, fun _ => true⟩ ∧ (∀ μ, getL μ d = some ds) → getL μ1 d = some ds → iList X.K (tE C X W i) σ H R := fun ds hw hg => go _ fun m1 H1 v x1 rel1 rv p1 => by
      obtain ⟨a, xs, rfl, h1, h3⟩ := rel1.getL rv hg
      refine ⟨a, rfl, ⟨xs, h1.l⟩, ?_⟩
      rcases hw with hw | ⟨hw, hall⟩
      · rw [hw] at p1
        exact PostG.here p1 rel1 _ (it_list rv fun μ h => by simpa using h)
      · rw [hw] at p1
        exact PostG.here p1 rel1 _ (it_list rv fun μ _ => hall μ)
    cases d with
    | tup ds =>
      refine .inr (.inl (go _ fun m1 H1 v x1 rel1 rv p1 => ?_))
      obtain ⟨a, xs, rfl, h1, h3⟩ := rel1.getT rv
      exact ⟨a, rfl, ⟨xs, h1⟩, PostG.here p1 rel1 _ (it_tup (w := ⟨ds, fun _ => true⟩) rv)⟩
    | lst ds => exact .inl (listy ds (.inr ⟨rfl, fun _ => rfl⟩) rfl)
    | str z =>
      refine .inr (.inr (go _ fun m1 H1 v x1 rel1 rv p1 => ?_))
      cases rv
      exact ⟨cs z, rfl, PostG.here p1 rel1 _ (it_str rfl)⟩
    | ref k =>
      cases ek : μ1[k]? with
      | none => exact .inl (stuck _ (by simp only [walkSeq, ek]))
      | some c =>
        cases c with
        | lst ds => exact .inl (listy ds (.inl (by simp only [walkSeq, ek])) (by simp only [getL, ek]))
        | fz ds => exact .inl (listy ds (.inl (by simp only [walkSeq, ek])) (by simp only [getL, ek]))
        | dict _ => exact .inl (stuck _ (by simp only [walkSeq, ek]))
        | obj _ _ => exact .inl (stuck _ (by simp only [walkSeq, ek]))
    | non => exact .inl (stuck _ rfl)
    | bl _ => exact .inl (stuck _ rfl)
    | int _ => exact .inl (stuck _ rfl)
theorem fits62_ok {i : Int} (h : fits62 i = true) : -(2 ^ 62) ≤ i ∧ i < 2 ^ 62 := by
  unfold fits62 at h
  simp only [Bool.and_eq_true, decide_eq_true_eq] at h
  omega
theorem i_range1 {tg a : Expr} {i : E} {p pos : Pos} (ok : Ok T C X W) (hg : Gl X "range") (ha : PE X a (tE C X W i)) (hp : plainE a = true) : PI X tg (.Call (.Name "range" p) [a] [] pos) (tI C X W (.range (.cons i .nil))) := by
  refine imI (pi_range1 hg ok.lib.range (pa_cons ha pa_nil (star_one hp)) (by rw [star_one hp]; rfl)) fun σ H R q => ?_
  obtain ⟨m, ρ, μ, rel, loc, pp⟩ := q
  simp only [walkI, evalEs] at pp
  refine ⟨m, ρ, μ, rel, loc, pp.bind.bind.imp fun x μ1 m1 H1 x1 rel1 p1 v rv => ?_⟩
  have p1 : Post X (xw X W σ) m1 H1 (optW (walkRange [x]) μ1) fun w _ m' H' => ∀ J, ItOk X.K X.mg w J m' H' → R J H' := PostG.here (a := [x]) p1 rel1
  cases rv with
  | int n =>
    simp only [walkRange] at p1
    split at p1
    · next hw =>
      obtain ⟨h1, h2⟩ := fits62_ok hw
      refine ⟨n, rfl, h1, h2, ?_⟩
      have q := PostG.here p1 rel1 (Itr 0 (n - 0).toNat) (it_range rfl)
      simpa using q
    · exact p1.elim
  | _ => exact p1.elim
theorem i_range2 {tg a b : Expr} {i j : E} {p pos : Pos} (ok : Ok T C X W) (hg : Gl X "range") (ha : PE X a (tE C X W i)) (hp : plainE a = true) (hb : PE X b (tE C X W j)) (hpb : plainE b = true) : PI X tg (.Call (.Name "range" p) [a, b] [] pos) (tI C X W (.range (.cons i (.cons j .nil)))) := by
  refine imI (pi_range2 hg ok.lib.range (pa_cons ha (pa_cons hb pa_nil (star_one hpb)) (star_one hp)) (by rw [star_one hp, star_one hpb]; rfl) (by rw [star_one hpb]; rfl)) fun σ H R q => ?_
  obtain ⟨m, ρ, μ, rel, loc, pp⟩ := q
  simp only [walkI, evalEs] at pp
  refine ⟨m, ρ, μ, rel, loc, pp.bind.bind.imp fun x μ1 m1 H1 x1 rel1 p1 v rv => ?_⟩
  refine ⟨m1, ρ, μ1, rel1, loc.mono x1.le, p1.bind.bind.imp fun y μ2 m2 H2 x2 rel2 p2 u ru => ?_⟩
  have p2 : Post X (xw X W σ) m2 H2 (optW (walkRange [x, y]) μ2) fun w _ m' H' => ∀ J, ItOk X.K X.mg w J m' H' → R J H' := PostG.here (a := [x, y]) (PostG.here (a := [y]) p2 rel2) rel2
  cases rv with
  | int n =>
    cases ru with
    | int k =>
      simp only [walkRange] at p2
      split at p2
      · next hw =>
        rw [Bool.and_eq_true] at hw
        obtain ⟨h1, h2⟩ := fits62_ok hw.1
        obtain ⟨h3, h4⟩ := fits62_ok hw.2
        exact ⟨n, k, rfl, ⟨h1, h2, h3, h4⟩, PostG.here p2 rel2 (Itr n (k - n).toNat) (it_range rfl)⟩
      · exact p2.elim
    | _ => exact p2.elim
  | _ => cases ru <;> exact p2.elim
theorem i_enum {a : Expr} {i : E} {p pos tpos : Pos} {elts : List Expr} {kk : Nat} (ok : Ok T C X W) (hg : Gl X "enumerate") (ha : PE X a (tE C X W i)) (hp : plainE a = true) : PI X (.Tuple elts kk tpos) (.Call (.Name "enumerate" p) [a] [] pos) (tI C X W (.enum i)) := by
  refine imI (pi_enum hg ok.lib.enumerate (pa_cons ha pa_nil (star_one hp)) (by rw [star_one hp]; rfl)) fun σ H R q => ?_
  obtain ⟨m, ρ, μ, rel, loc, pp⟩ := q
  simp only [walkI] at pp
  refine ⟨m, ρ, μ, rel, loc, pp.bind.imp fun x μ1 m1 H1 x1 rel1 p1 v rv => ?_⟩
  unfold walkEnum at p1
  cases e : getL μ1 x with
  | none => rw [e] at p1; exact p1.elim
  | some ds =>
    rw [e] at p1
    obtain ⟨a, xs, rfl, h1, h3⟩ := rel1.getL rv e
    exact ⟨a, xs, rfl, h1.l, PostG.here p1 rel1 _ (it_enum rv rfl fun μ h => by simpa using h)⟩
theorem i_zip {a b : Expr} {i j : E} {p pos tpos : Pos} {elts : List Expr} {kk : Nat} (ok : Ok T C X W) (hg : Gl X "zip") (ha : PE X a (tE C X W i)) (hp : plainE a = true) (hb : PE X b (tE C X W j)) (hpb : plainE b = true) :
    PI X (.Tuple elts kk tpos) (.Call (.Name "zip" p) [a, b] [] pos) (tI C X W (.zip i j)) := by
  refine imI (pi_zip hg ok.lib.zip (pa_cons ha (pa_cons hb pa_nil (star_one hpb)) (star_one hp)) (star_one hp) (by rw [star_one hpb]; rfl)) fun σ H R q => ?_
  obtain ⟨m, ρ, μ, rel, loc, pp⟩ := q
  simp only [walkI] at pp
  refine ⟨m, ρ, μ, rel, loc, pp.bind.imp fun x μ1 m1 H1 x1 rel1 p1 v rv => ?_⟩
  refine ⟨m1, ρ, μ1, rel1, loc.mono x1.le, p1.bind.imp fun y μ2 m2 H2 x2 rel2 p2 u ru => ?_⟩
  unfold walkZip at p2
  split at p2
  · next xs ys e1 e2 =>
    have rv2 := rv.mono x2.le
    obtain ⟨a, vs, rfl, h1, h3⟩ := rel2.getL rv2 e1
    obtain ⟨b, us, rfl, h4, h5⟩ := rel2.getL ru e2
    exact ⟨a, b, vs, us, rfl, h1.l, h4.l, PostG.here p2 rel2 _ (it_zip rv2 ru rfl fun μ h => by simpa using h)⟩
  · exact p2.elim
theorem i_rev {tg a : Expr} {i : E} {p pos : Pos} (ok : Ok T C X W) (hg : Gl X "reversed") (ha : PE X a (tE C X W i)) (hp : plainE a = true) : PI X tg (.Call (.Name "reversed" p) [a] [] pos) (tI C X W (.rev i)) := by
  refine imI (pi_reversed hg ok.lib.reversed (pa_cons ha pa_nil (star_one hp)) (by rw [star_one hp]; rfl)) fun σ H R q => ?_
  obtain ⟨m, ρ, μ, rel, loc, pp⟩ := q
  simp only [walkI] at pp
  refine ⟨m, ρ, μ, rel, loc, pp.bind.imp fun x μ1 m1 H1 x1 rel1 p1 v rv => ?_⟩
  unfold walkRev at p1
  cases e : getL μ1 x with
  | none => rw [e] at p1; exact p1.elim
  | some ds =>
    rw [e] at p1
    obtain ⟨a, xs, rfl, h1, h3⟩ := rel1.getL rv e
    refine ⟨a, xs, rfl, h1.l, ?_⟩
    rw [h3.len]
    exact PostG.here p1 rel1 _ (it_rev rv rfl fun μ h => by simpa using h)
/-- what is walked is served -/
theorem iter_ok (ok : Ok T C X W) {r : Expr → Option E} (hr : ∀ e i, r e = some i → PE X e (tE C X W i)) {tg it : Expr} {i : I} (h : cI X.env.scope r tg it = some i) : PI X tg it (tI C X W i) := by
  unfold cI at h
  split at h
  · next hpl =>
    split at h
    · simp only [Option.map_eq_some_iff] at h
      obtain ⟨j, h1, rfl⟩ := h
      exact i_seq (hr _ _ h1)
    · split at h
      · next _ x p args pos _ =>
        split at h
        · next hg =>
          have hg := isGl_ok hg
          split at h
          · next ex =>
            subst ex
            split at h
            · next hl =>
              simp only [Option.map_eq_some_iff] at h
              obtain ⟨is, h1, rfl⟩ := h
              cases args with
              | nil => simp at hl
              | cons a r1 =>
                unfold cEs at h1
                split at h1
                · next hp =>
                  split at h1
                  · next j hj =>
                    simp only [Option.map_eq_some_iff] at h1
                    obtain ⟨js, h2, rfl⟩ := h1
                    cases r1 with
                    | nil =>
                      cases h2
                      exact i_range1 ok hg (hr _ _ hj) hp
                    | cons b r2 =>
                      unfold cEs at h2
                      split at h2
                      · next hp2 =>
                        split at h2
                        · next j2 hj2 =>
                          simp only [Option.map_eq_some_iff] at h2
                          obtain ⟨js2, h3, rfl⟩ := h2
                          cases r2 with
                          | nil =>
                            cases h3
                            exact i_range2 ok hg (hr _ _ hj) hp (hr _ _ hj2) hp2
                          | cons c r3 => simp at hl
                        · cases h2
                      · cases h2
                  · cases h1
                · cases h1
            · cases h
          · split at h
            · next ex =>
              subst ex
              split at h
              · next a =>
                split at h
                · next hc =>
                  rw [Bool.and_eq_true] at hc
                  simp only [Option.map_eq_some_iff] at h
                  obtain ⟨j, h1, rfl⟩ := h
                  cases tg with
                  | Tuple elts kk tpos => exact i_enum ok hg (hr _ _ h1) hc.2
                  | _ => cases hc.1
                · cases h
              · cases h
            · split at h
              · next ex =>
                subst ex
                split at h
                · next a b =>
                  split at h
                  · next hc =>
                    simp only [Bool.and_eq_true] at hc
                    split at h
                    · next i1 i2 h1 h2 =>
                      cases h
                      cases tg with
                      | Tuple elts kk tpos => exact i_zip ok hg (hr _ _ h1) hc.1.2 (hr _ _ h2) hc.2
                      | _ => cases hc.1.1
                    · cases h
                  · cases h
                · cases h
              · split at h
                · next ex =>
                  subst ex
                  split at h
                  · next a =>
                    split at h
                    · next hc =>
                      simp only [Option.map_eq_some_iff] at h
                      obtain ⟨j, h1, rfl⟩ := h
                      exact i_rev ok hg (hr _ _ h1) hc
                    · cases h
                  · cases h
                · cases h
        · cases h
      · cases h
  · cases h
end
end G
/-! The G machine over the hand layer: targets of names, list comprehensions. -/
set_option Elab.async false
set_option linter.all false
set_option maxRecDepth 100000
namespace G
open PySem PySem.Spec L2
section
variable {X : Cx} {T : Tab} {C : Ctx} {W : WX}
/-- no wish -/
abbrev W0 : WX := fun _ _ _ _ => False
theorem PostG.weak {α : Type} {Xd : String → Mem → Mp → Hp → Prop} {m : Mp} {H : Hp} {r : R α} {k : α → Mem → Mp → Hp → Prop} (h : Post X (fun _ _ _ _ => False) m H r k) : Post X Xd m H r k := by
  cases r with
  | bad => exact h
  | ok a μ => exact h
  | ex d μ => exact fun m' H' x rel => (h m' H' x rel).elim
/-! ### targets of names -/
def tBn (X : Cx) (t : G.T) : TG := fun v σ H Q => ∃ m μ ρ d ρ', RelM X m H μ ∧ Loc X m σ ρ ∧ Rp X.K m v d ∧ bindT t d ρ = some ρ' ∧ ∀ σ' : L2.St, Loc X m σ' ρ' → (∀ j, j ∉ slotsT t → σ'[j]? = σ[j]?) → σ'.length = σ.length → Q σ' H
def tBns (X : Cx) (ts : Ts) : TGs := fun vs σ H Q => ∃ m μ ρ ds ρ', RelM X m H μ ∧ Loc X m σ ρ ∧ Rps X.K m vs ds ∧ bindTs ts ds ρ = some ρ' ∧ ∀ σ' : L2.St, Loc X m σ' ρ' → (∀ j, j ∉ slotsTs ts → σ'[j]? = σ[j]?) → σ'.length = σ.length → Q σ' H
theorem imG {e : Expr} {t t' : TG} (h : PG X e t) (i : ∀ v σ H Q, t' v σ H Q → t v σ H Q) : PG X e t' := ⟨fun pins s σ H v u Q I r q => h.run pins s σ H v u Q I r (i v σ H Q q)⟩
theorem imGs {e : List Expr} {t t' : TGs} (h : PGs X e t) (i : ∀ v σ H Q, t' v σ H Q → t v σ H Q) : PGs X e t' := ⟨fun pins s σ H v u Q I r q => h.run pins s σ H v u Q I r (i v σ H Q q)⟩
theorem asg_one {e : Expr} {es : List Expr} {env : PySem.Env} (h : plainE e = true) : assignEach (e :: es) env = (false, assign e env) :: assignEach es env := by
  cases e <;> first | rfl | cases h
theorem asg_len {env : PySem.Env} : ∀ {es : List Expr}, plains es = true → (assignEach es env).length = es.length
  | [], _ => rfl
  | e :: es, h => by
    simp only [plains, List.all_cons, Bool.and_eq_true] at h
    rw [asg_one h.1, List.length_cons, List.length_cons, asg_len h.2]
theorem asg_none {env : PySem.Env} : ∀ {es : List Expr}, plains es = true → (assignEach es env).findIdx? (·.1) = none
  | [], _ => rfl
  | e :: es, h => by
    simp only [plains, List.all_cons, Bool.and_eq_true] at h
    rw [asg_one h.1, List.findIdx?_cons, asg_none h.2]
    rfl
theorem bindTs_len : ∀ {ts : Ts} {ds : List D} {ρ ρ' : Env}, bindTs ts ds ρ = some ρ' → ds.length = lenTs ts
  | .nil, [], _, _, _ => rfl
  | .nil, _ :: _, _, _, h => by simp [bindTs] at h
  | .cons t r, [], _, _, h => by simp [bindTs] at h
  | .cons t r, d :: ds, ρ, ρ', h => by
    simp only [bindTs] at h
    split at h
    · next ρ1 e => simp [lenTs, bindTs_len h]
    · cases h
theorem ts_ok {rt : Expr → Option G.T} (hrt : ∀ e t, rt e = some t → PG X e (tBn X t)) : ∀ {es : List Expr} {ts : Ts}, cTs rt es = some ts → PGs X es (tBns X ts) ∧ plains es = true ∧ lenTs ts = es.length
  | [], _, h => by
    cases h
    refine ⟨imGs pgs_nil fun v σ H Q q => ?_, rfl, rfl⟩
    obtain ⟨m, μ, ρ, ds, ρ', rel, loc, r, e, q⟩ := q
    cases r with
    | nil =>
      simp only [bindTs, Option.some.injEq] at e
      subst e
      exact ⟨rfl, q σ loc (fun _ _ => rfl) rfl⟩
    | cons _ _ => simp [bindTs] at e
  | e :: es, ts, h => by
    unfold cTs at h
    split at h
    · next hp =>
      split at h
      · next a b ha hb =>
        cases h
        obtain ⟨q1, q2, q3⟩ := ts_ok hrt hb
        refine ⟨imGs (pgs_cons (hrt _ _ ha) q1 (by rw [asg_one hp]; rfl)) fun v σ H Q q => ?_, by simpa [plains, hp] using q2, by simp [lenTs, q3]⟩
        obtain ⟨m, μ, ρ, ds, ρ', rel, loc, r, e, q⟩ := q
        cases r with
        | nil => simp [bindTs] at e
        | cons r1 r2 =>
          simp only [bindTs] at e
          split at e
          · next ρ1 e1 =>
            refine ⟨_, _, rfl, m, μ, ρ, _, ρ1, rel, loc, r1, e1, fun σ1 loc1 s1 l1 => ?_⟩
            refine ⟨m, μ, ρ1, _, ρ', rel, loc1, r2, e, fun σ2 loc2 s2 l2 => q σ2 loc2 (fun j hj => ?_) (l2.trans l1)⟩
            simp only [slotsTs, List.mem_append, not_or] at hj
            rw [s2 j hj.2, s1 j hj.1]
          · cases e
      · cases h
    · cases h
theorem name_tg {x : PySem.Str} {i : Nat} {pos : Pos} (nd : X.N.Nodup) (hi : slotAt x X.N 0 = some i) (hl : L2.Loc X.env.scope x) (hf : X.fn x = true ∨ X.env.scope.names.lookup x = some .local) : PG X (.Name x pos) (tBn X (G.T.name i)) := by
  refine imG (pg_name nd (slot_at hi) hl hf) fun v σ H Q q => ?_
  obtain ⟨m, μ, ρ, d, ρ', rel, loc, r, e, q⟩ := q
  simp only [bindT, Option.some.injEq] at e
  subst e
  refine q _ (loc.set r i) (fun j hj => ?_) (List.length_set ..)
  simp only [slotsT, List.mem_singleton] at hj
  rw [List.getElem?_set_ne (Ne.symm hj)]
theorem n_ok (calm : X.calm = true) (nd : X.N.Nodup) {tsc : Scope} (ht : ∀ x, isLoc tsc x = true → L2.Loc X.env.scope x ∧ (X.fn x = true ∨ X.env.scope.names.lookup x = some .local)) : ∀ {n : Nat} {e : Expr} {t : G.T}, cTn X.N tsc n e = some t → PG X e (tBn X t)
  | 0, _, _, h => by cases h
  | n + 1, e, t, h => by
    unfold cTn at h
    split at h
    · split at h
      · next hl =>
        simp only [Option.map_eq_some_iff] at h
        obtain ⟨i, h1, rfl⟩ := h
        exact name_tg nd h1 (ht _ hl).1 (ht _ hl).2
      · cases h
    · simp only [Option.map_eq_some_iff] at h
      obtain ⟨ts, h1, rfl⟩ := h
      obtain ⟨q1, q2, q3⟩ := ts_ok (fun e t he => n_ok calm nd ht (n := n) he) h1
      refine imG (pg_tup calm q1 (asg_len q2) (asg_none q2)) fun v σ H Q q => ?_
      obtain ⟨m, μ, ρ, d, ρ', rel, loc, r, e, q⟩ := q
      simp only [bindT] at e
      split at e
      · next ds ed =>
        cases d with
        | tup es =>
          cases ed
          obtain ⟨a, xs, rfl, h3, h4⟩ := rel.getT r
          exact ⟨a, xs, rfl, h3, by rw [h4.len, bindTs_len e, q3], m, μ, ρ, _, ρ', rel, loc, h4, e, q⟩
        | _ => cases ed
      · cases e
    · cases h
/-! ### the block's slots -/
theorem wipe_at {σ : L2.St} {i : Nat} : ∀ {vs : List Nat}, (wipe σ vs)[i]? = if i ∈ vs ∧ i < σ.length then some none else σ[i]?
  | [] => by simp [wipe]
  | v :: vs => by
    have ih := @wipe_at σ i vs
    unfold wipe
    by_cases e : v = i
    · subst e
      by_cases h : v < σ.length
      · rw [List.getElem?_set_self (by rw [wipe_length]; exact h), if_pos ⟨List.mem_cons_self, h⟩]
      · rw [if_neg (fun z => h z.2), List.getElem?_eq_none (by rw [List.length_set, wipe_length]; omega), List.getElem?_eq_none (by omega)]
    · rw [List.getElem?_set_ne e, ih]
      simp [Ne.symm e]
theorem wipe_same {σ σ2 : L2.St} {vs sl : List Nat} (hs : ∀ i ∈ sl, i ∈ vs) (h : ∀ j, j ∉ sl → σ2[j]? = (wipe σ vs)[j]?) (hl : σ2.length = (wipe σ vs).length) : wipe σ2 vs = wipe σ vs := by
  refine List.ext_getElem? fun i => ?_
  rw [wipe_length] at hl
  rw [wipe_at, wipe_at, hl]
  by_cases hi : i ∈ vs ∧ i < σ.length
  · rw [if_pos hi, if_pos hi]
  · rw [if_neg hi, if_neg hi]
    by_cases h1 : i ∈ vs
    · have : ¬ i < σ.length := fun z => hi ⟨h1, z⟩
      rw [List.getElem?_eq_none (by omega), List.getElem?_eq_none (by omega)]
    · rw [h i (fun z => h1 (hs i z)), wipe_at, if_neg (fun z => h1 z.1)]
/-! ### comprehensions -/
def tTs (C : Ctx) (X : Cx) (W : WX) (cs : Es) : TT := fun σ H Q => ∃ m ρ μ, RelM X m H μ ∧ Loc X m σ ρ ∧ Post X (xw X W σ) m H (testEs C cs ρ μ) fun b _ m' H' => Q b H'
theorem lc_step {α : Type} {m m1 : Mp} {H H1 : Hp} {Xc : String → Mem → Mp → Hp → Prop} {r : R α} {f : α → Mem → R (List D)} {g : List D → Mem → R D} {k : D → Mem → Mp → Hp → Prop} (h : Post X Xc m1 H1 ((r.bind f).calm.bind g) k) :
    Post X (fun _ _ _ _ => False) m H r fun y μ2 _ _ => Post X Xc m1 H1 ((f y μ2).calm.bind g) k := by
  cases r with
  | bad => exact h
  | ex c μ => exact h.elim
  | ok y μ => exact fun _ _ _ _ => h
theorem lc_read {t : G.T} {i : I} {e : E} {cs : Es} {vs : List Nat} (hs : ∀ j ∈ slotsT t, j ∈ vs) {σ : L2.St} {H : Hp} {Q : VK} (q : tE C X W (.lc t i e cs vs) σ H Q) : tLc (tI C X W i) (tBn X t) (tTs C X W0 cs) (tE C X W0 e) vs σ H Q := by
  obtain ⟨m, ρ, μ, rel, loc, p⟩ := q
  simp only [evalE] at p
  refine ⟨m, ρ, μ, rel, loc, p.bind.imp fun w μ1 m1 H1 x1 rel1 p1 J hJ D hD => ?_⟩
  generalize hel : (fun d μ2 => match bindT t d (wipeE ρ vs) with
        | some ρ1 => (testEs C cs ρ1 μ2).bind fun b μ3 => if b = true then (evalE C e ρ1 μ3).bind fun y μ4 => R.ok (some y) μ4 else R.ok none μ3
        | none => R.bad) = el at p1
  have loc1 := loc.mono x1.le
  have hap := rel1.out hD
  let Inv1 : Nat → Hp → Prop := fun i H => ∃ m' μ' acc ds, Ext m1 H1 m' H ∧ RelM X m' H μ' ∧ Apart m' D ∧ H D = some (.lst acc) ∧ Rps X.K m' acc ds ∧ i ≤ w.items.length ∧
    Post X (xw X W σ) m1 H1 ((lcL w.keep el C.fr (w.items.drop i) ds μ').calm.bind newL) fun d _ m' H' => ∀ v, Rp X.K m' v d → Q v H'
  refine ⟨fun i n H => n = w.items.length - i ∧ Inv1 i H, ⟨w.items.length, by simp, m1, μ1, [], [], Ext.junk (Ext.refl _ _) hD _, rel1.junk hap _, hap, upd_same, .nil, Nat.zero_le _, by simpa using p1⟩, ?_⟩
  rintro i n H ⟨rfl, m', μ', acc, ds, x', rel', ap, hD', rv, hi, pp⟩
  by_cases hlt : i < w.items.length
  · rw [List.drop_eq_getElem_cons hlt] at pp
    simp only [lcL] at pp
    by_cases hk : w.keep μ' = true
    · rw [if_pos hk] at pp
      obtain ⟨_, hgo⟩ := hJ i H m' μ' x' rel' hk
      obtain ⟨go, hy⟩ := hgo _ (List.getElem?_eq_getElem hlt)
      refine .inr ⟨go, Inv1 (i + 1), fun H' h' => ⟨w.items.length - (i + 1), by omega, rfl, h'⟩, fun x H' y => ?_⟩
      obtain ⟨m3, x3, rel3, rx⟩ := hy x H' y
      have p3 := lc_step (m := m3) (H := H') pp
      have ap3 := (x3.stays ap hD')
      have x13 := x'.trans x3
      have loc3 := (loc1.mono x13.le).wipe vs
      subst hel
      simp only [] at p3
      cases hb : bindT t w.items[i] (wipeE ρ vs) with
      | none => rw [hb] at p3; exact p3.elim
      | some ρ1 =>
        rw [hb] at p3
        refine ⟨m3, μ', wipeE ρ vs, _, ρ1, rel3, loc3, rx, hb, fun σ2 loc2 s2 l2 => ⟨wipe_same hs s2 l2, ?_⟩⟩
        refine ⟨m3, ρ1, μ', rel3, loc2, (PostG.weak p3).bind.imp fun b μ4 m4 H4 x4 rel4 p4 => ?_⟩
        cases b with
        | false =>
          have p5 := PostG.here p4 rel4
          obtain ⟨ap4, hD4⟩ := x4.stays ap3.1 ap3.2
          exact ⟨m4, μ4, acc, ds, x13.trans x4, rel4, ap4, hD4, (rv.mono x3.le).mono x4.le, hlt, p5⟩
        | true =>
          have p4 : Post X (xw X W0 σ2) m4 H4 ((evalE C e ρ1 μ4).bind fun y μ5 => R.ok (some y) μ5) _ := p4
          refine ⟨m4, ρ1, μ4, rel4, loc2.mono x4.le, p4.bind.imp fun y μ5 m5 H5 x5 rel5 p5 v rv5 => ?_⟩
          have p6 := PostG.here p5 rel5
          obtain ⟨ap5, hD5⟩ := (x4.trans x5).stays ap3.1 ap3.2
          simp only [] at p6
          split at p6
          · next hl =>
            obtain ⟨m6, rel6, x6, rv6⟩ := rel5.freeze C.fr rv5
            obtain ⟨ap6, hD6⟩ := x6.stays ap5 hD5
            have racc := (((rv.mono x3.le).mono x4.le).mono x5.le).mono x6.le
            refine ⟨acc, hD5, by rw [racc.len, ← line_eq]; exact hl, ?_⟩
            have e1 : (if C.fr = true then (frz1 y μ5).1 else y) = (if C.fr = true then frz1 y μ5 else (y, μ5)).1 := by split <;> rfl
            have e2 : (if C.fr = true then (frz1 y μ5).2 else μ5) = (if C.fr = true then frz1 y μ5 else (y, μ5)).2 := by split <;> rfl
            rw [e1, e2] at p6
            exact ⟨m6, _, _, _, (((x13.trans x4).trans x5).trans x6).junk hD _, rel6.junk ap6 _, ap6, upd_same, racc.app (.cons rv6 .nil), hlt, p6⟩
          · exact p6.elim
    · rw [if_neg hk] at pp
      exact pp.elim
  · have e0 : i = w.items.length := by omega
    subst e0
    rw [List.drop_length] at pp
    simp only [lcL] at pp
    by_cases hk : w.keep μ' = true
    · rw [if_pos hk] at pp
      obtain ⟨hst, _⟩ := hJ _ H m' μ' x' rel' hk
      refine .inl ⟨hst rfl, ?_⟩
      have eH : upd H D (.lst acc) = H := by
        funext b
        by_cases z : b = D
        · rw [z, upd_same, hD']
        · rw [upd_ne z]
      have rel2 := rel'.adopt (o := .lst acc) (c := .lst ds) ap ⟨acc, upd_same, ap.2, rv.mono (rel'.le_add D)⟩
      have x2 := x'.adopt rel' hD (.lst acc)
      rw [eH] at rel2 x2
      exact pp _ _ x2 rel2 _ (.ref (if_pos rfl))
    · rw [if_neg hk] at pp
      exact pp.elim
end
end G
/-! The G machine over the hand layer: every compiled expression is served. -/
set_option Elab.async false
set_option linter.all false
set_option maxRecDepth 100000
namespace G
open PySem PySem.Spec L2
section
variable {X : Cx} {T : Tab} {C : Ctx} {W : WX}
theorem t_ite {c a b : Expr} {i j k : E} {pos : Pos} (hc : PT X c (tT C X W i)) (ha : PT X a (tT C X W j)) (hb : PT X b (tT C X W k)) : PT X (.IfExp c a b pos) (tT C X W (.ite i j k)) := by
  refine ⟨fun pins s σ H Q I q => ?_⟩
  obtain ⟨m, ρ, μ, rel, loc, p⟩ := q
  simp only [evalE] at p
  refine PyProof.Rows.isTrue_IfExp (thn (hc.run pins s σ H (fun t H1 => if t = true then tT C X W j σ H1 Q else tT C X W k σ H1 Q) I ⟨m, ρ, μ, rel, loc, p.bind.imp fun x μ1 m1 H1 x1 rel1 p1 => ?_⟩) fun d s1 ⟨H1, I1, q1⟩ => ?_)
  · cases e : truth μ1 x with
    | none => rw [e] at p1; exact p1.elim
    | some t =>
      rw [e] at p1
      refine ⟨t, rfl, ?_⟩
      cases t with
      | true => exact ⟨m1, ρ, μ1, rel1, loc.mono x1.le, p1⟩
      | false => exact ⟨m1, ρ, μ1, rel1, loc.mono x1.le, p1⟩
  · cases d with
    | true => exact ha.run pins s1 σ H1 Q I1 q1
    | false => exact hb.run pins s1 σ H1 Q I1 q1
/-- both readings -/
def Both (X : Cx) (C : Ctx) (W : WX) (e : Expr) (i : E) : Prop := PE X e (tE C X W i) ∧ PT X e (tT C X W i)
theorem both_of {e : Expr} {i : E} (h : PE X e (tE C X W i)) (he : ∀ whole, isTrue e X.env whole = (do let v ← whole; standAt e.pos; holding [v] (truthy v))) : Both X C W e i := ⟨h, t_val h he⟩
theorem cop_eq {op : CmpOp} {o : Cmp} (h : cCop op = some o) : op = copOf o := by
  cases op <;> cases h <;> rfl
theorem op_eq {op : Operator} {o : Op} (h : cOp op = some o) : op = opOf o := by
  cases op <;> cases h <;> rfl
theorem bool_ok {r : Expr → Option E} (hr : ∀ e i, r e = some i → Both X C W e i) {op : BoolOp} {pos : Pos} : ∀ {vs : List Expr} {i : E}, cBool r op vs = some i → PE X (.BoolOp op vs pos) (tE C X W i) ∧ PW X (.BoolOp op vs pos) (tT C X W i)
  | [], _, h => by cases h
  | [e], i, h => by
    have h : r e = some i := h
    obtain ⟨q1, q2⟩ := hr _ _ h
    refine ⟨pe_one q1, ?_⟩
    cases op with
    | And => exact pw_and1 q2
    | Or => exact pw_or1 q2
  | e :: f :: es, i, h => by
    unfold cBool at h
    split at h
    · next a b ha hb =>
      cases h
      obtain ⟨q1, q2⟩ := hr _ _ ha
      obtain ⟨q3, q4⟩ := bool_ok hr (pos := pos) hb
      cases op with
      | And => exact ⟨e_and q1 q3, w_and q2 q4⟩
      | Or => exact ⟨e_or q1 q3, w_or q2 q4⟩
    · cases h
theorem cmp_ok (hu : X.A.units + 64 < cLine) {r : Expr → Option E} (hr : ∀ e i, r e = some i → Both X C W e i) {a : Expr} {ops : List CmpOp} {cs : List Expr} {i : E} {pos : Pos} (h : cCmp r a ops cs = some i) : Both X C W (.Compare a ops cs pos) i := by
  unfold cCmp at h
  split at h
  · next op b =>
    split at h
    · cases h
    · next hm =>
      split at h
      · next o x y ho hx hy =>
        cases h
        have e := cop_eq ho
        subst e
        have hm : behindInMarks (copOf o) b = false := by simpa using hm
        exact ⟨e_cmp hu (hr _ _ hx).1 (hr _ _ hy).1 hm, t_cmp hu (hr _ _ hx).1 (hr _ _ hy).1 hm⟩
      · cases h
  · next op op' b c =>
    split at h
    · cases h
    · next hm =>
      split at h
      · next o o' x y z ho ho' hx hy hz =>
        cases h
        have e := cop_eq ho
        subst e
        have e := cop_eq ho'
        subst e
        have hm : lastMarks [copOf o, copOf o'] [b, c] = false := by
          simp only [Bool.or_eq_true, not_or, Bool.not_eq_true] at hm
          unfold lastMarks
          unfold lastMarks
          exact hm.2
        exact ⟨e_chain hu (hr _ _ hx).1 (hr _ _ hy).1 (hr _ _ hz).1 hm, t_chain hu (hr _ _ hx).1 (hr _ _ hy).1 (hr _ _ hz).1 hm⟩
      · cases h
  · cases h
/-- f(..) -/
theorem call_ok (ok : Ok T C X W) {r : Expr → Option E} (hr : ∀ e i, r e = some i → PE X e (tE C X W i)) {x : PySem.Str} {args : List Expr} {i : E} {p pos : Pos} (h : cCall T X.env.scope r x args = some i) : PE X (.Call (.Name x p) args [] pos) (tE C X W i) := by
  unfold cCall at h
  split at h
  · cases h
  · next ho =>
    have ho : odd x = false ∧ isGl X.env.scope x = true := by
      cases h1 : odd x <;> cases h2 : isGl X.env.scope x <;> simp_all
    obtain ⟨ho, hg⟩ := ho
    have hg := isGl_ok hg
    split at h
    · next ex =>
      subst ex
      split at h
      · next a t =>
        split at h
        · next hp =>
          split at h
          · next i1 ty h1 h2 =>
            cases h
            exact isi_ok ok hg (hr _ _ h1) hp h2
          · cases h
        · cases h
      · cases h
    · split at h
      · next f hf =>
        simp only [Option.map_eq_some_iff] at h
        obtain ⟨is, h1, rfl⟩ := h
        obtain ⟨a, q1, q2, q3⟩ := ok.fns _ _ hf
        cases args with
        | nil =>
          cases h1
          exact e_call0 q3 ok.takes hg q1 q2 (odd_ok ho).1
        | cons e es =>
          have hp := cEs_plain h1
          have hp2 := hp
          simp only [plains, List.all_cons, Bool.and_eq_true] at hp2
          exact e_call q3 ok.takes hg q1 q2 (odd_ok ho).1 (args_ok hr h1) (star_one hp2.1) (star_any hp2.2)
      · split at h
        · next c hc =>
          rw [ok.cls] at hc
          cases hc
        · split at h
          · next b e es hb =>
            simp only [Option.map_eq_some_iff] at h
            obtain ⟨is, h1, rfl⟩ := h
            exact blt_ok ok hb hg ho (args_ok hr h1) (cEs_plain h1)
          · cases h
theorem meth_ok (ok : Ok T C X W) {r : Expr → Option E} (hr : ∀ e i, r e = some i → PE X e (tE C X W i)) {o : Expr} {m : PySem.Str} {args : List Expr} {i : E} {apos pos : Pos} (hs : noSuper o = true) (h : cMeth T r o m args (apos.endLine == pos.line) = some i) : PE X (.Call (.Attribute o m apos) args [] pos) (tE C X W i) := by
  unfold cMeth at h
  rw [ok.mth] at h
  rw [if_neg (show ¬ (([] : List PySem.Str).contains m = true) from by simp)] at h
  split at h
  · next hl =>
    rw [Bool.and_eq_true] at hl
    split at h
    · next b i1 es hb h1 h2 =>
      cases h
      exact bm_ok ok.hu hb (hr _ _ h1) ⟨r, hr, h2⟩ (base_ok hs _) (by simpa using hl.2) hl.1
    · cases h
  · cases h
/-- inside a block -/
theorem blk_ok (ok : Ok T C X W) (s : Shared) (H : Hp) (scope : Scope) (cenv : PySem.Env) (fp : List Addr) : Ok T C (X.blk s H scope cenv fp) W0 :=
  ⟨ok.calm, ok.nd, ok.lib, ok.unit, fun u s' h => by
    obtain ⟨a, B, sI, pins, σ, H, cls, d, _, _, _, _, _, _, _, _, w⟩ := h
    exact w, ok.con, ok.fns, ok.cls, ok.mth⟩
theorem own_ok {N : List PySem.Str} : ∀ {ns : List (PySem.Str × NameKind)}, ∀ p ∈ ownOf N ns, N[p.2]? = some p.1
  | [], p, h => by cases h
  | (x, k) :: ns, p, h => by
    unfold ownOf at h
    split at h
    · split at h
      · next i hi =>
        rcases List.mem_cons.mp h with h | h
        · subst h
          exact slot_at hi
        · exact own_ok p h
      · exact own_ok p h
    · split at h
      · next i hi =>
        rcases List.mem_cons.mp h with h | h
        · subst h
          exact slot_at hi
        · exact own_ok p h
      · exact own_ok p h
    · exact own_ok p h
theorem tests_ok {r : Expr → Option E} (hr : ∀ e i, r e = some i → Both X C W e i) {ifs : List Expr} {cs : Es} (h : cEs r ifs = some cs) (hl : ifs.length ≤ 1) : PTs X ifs (tTs C X W cs) := by
  cases ifs with
  | nil =>
    cases h
    refine ⟨fun pins s σ H Q I q => pts_nil.run pins s σ H Q I ?_⟩
    obtain ⟨m, ρ, μ, rel, loc, p⟩ := q
    simp only [testEs] at p
    exact PostG.here p rel
  | cons c r2 =>
    cases r2 with
    | cons _ _ => simp at hl
    | nil =>
      unfold cEs at h
      split at h
      · split at h
        · next i hi =>
          cases h
          refine ⟨fun pins s σ H Q I q => (pts_one (hr _ _ hi).2).run pins s σ H Q I ?_⟩
          obtain ⟨m, ρ, μ, rel, loc, p⟩ := q
          simp only [testEs] at p
          refine ⟨m, ρ, μ, rel, loc, p.bind.imp fun x μ1 m1 H1 x1 rel1 p1 => ?_⟩
          cases e : truth μ1 x with
          | none => rw [e] at p1; exact p1.elim
          | some t =>
            rw [e] at p1
            cases t with
            | true => exact ⟨true, rfl, PostG.here p1 rel1⟩
            | false => exact ⟨false, rfl, PostG.here p1 rel1⟩
        · cases h
      · cases h
theorem fold_ok {e : Expr} (h : plainE e = true) (env : PySem.Env) (x : Value) : foldedSetIterable e env x = pure x := by
  cases e <;> first | rfl | cases h
/-- the claim at a depth -/
def Served (T : Tab) (C : Ctx) (r : Scope → Expr → Option E) (N : List PySem.Str) : Prop := ∀ (X : Cx) (W : WX) (e : Expr) (i : E), Ok T C X W → X.N = N → r X.env.scope e = some i → Both X C W e i
theorem targ_blk {s : Shared} {H : Hp} {scope : Scope} {cl : List (PySem.Str × Addr)} {Cc : Addr} {fp : List Addr} {x : PySem.Str} (h : isLoc scope x = true) :
    L2.Loc (X.blk s H scope (compEnvC scope cl Cc X.env) fp).env.scope x ∧ ((X.blk s H scope (compEnvC scope cl Cc X.env) fp).fn x = true ∨ (X.blk s H scope (compEnvC scope cl Cc X.env) fp).env.scope.names.lookup x = some .local) := by
  unfold isLoc at h
  split at h
  · next e =>
    have q := lookup_relS_keep (sc := X.env.scope) (by decide) e
    exact ⟨.inl q, .inr q⟩
  · next e =>
    have q := lookup_relS_keep (sc := X.env.scope) (by decide) e
    exact ⟨.inr q, .inl (by show (scope.names.lookup x == some .cell) = true; rw [e]; rfl)⟩
  · cases h
/-- what a comprehension is made of -/
structure LcP (X : Cx) (C : Ctx) (W : WX) (tg it elt : Expr) (ifs : List Expr) (scope : Scope) (t : G.T) (i : I) (x : E) (cs : Es) (own : List (PySem.Str × Nat)) : Prop where
  iter : PI X tg it (tI C X W i)
  blk : BlkOk X.N X.env.scope scope own
  tg : ∀ (s : Shared) (H : Hp) (Cc : Addr) (cl : List (PySem.Str × Addr)) (fp : List Addr), PG (X.blk s H scope (compEnvC scope cl Cc X.env) fp) tg (tBn X t)
  ifs : ∀ (s : Shared) (H : Hp) (Cc : Addr) (cl : List (PySem.Str × Addr)) (fp : List Addr), PTs (X.blk s H scope (compEnvC scope cl Cc X.env) fp) ifs (tTs C X W0 cs)
  elt : ∀ (s : Shared) (H : Hp) (Cc : Addr) (cl : List (PySem.Str × Addr)) (fp : List Addr), PE (X.blk s H scope (compEnvC scope cl Cc X.env) fp) elt (tE C X W0 x)
  sl : ∀ j ∈ slotsT t, j ∈ own.map (·.2)
  plain : plainE it = true
theorem lc_parts {r : Scope → Expr → Option E} {N : List PySem.Str} (ih : Served T C r N) (ok : Ok T C X W) (hN : X.N = N) {elt : Expr} {gens : List Comprehension} {scope : Scope} {pos : Pos} {i : E} (h : stepE T N r X.env.scope (.ListComp elt gens scope pos) = some i) :
    ∃ tg it ifs t j x cs own, gens = [⟨tg, it, ifs, 0⟩] ∧ i = .lc t j x cs (own.map (·.2)) ∧ LcP X C W tg it elt ifs scope t j x cs own := by
  subst hN
  have hr : ∀ e i, r X.env.scope e = some i → Both X C W e i := fun e i h => ih X W e i ok rfl h
  have hr1 : ∀ e i, r X.env.scope e = some i → PE X e (tE C X W i) := fun e i h => (hr e i h).1
  simp only [stepE] at h
  split at h
  · next tg it ifs =>
    split at h
    · next hc =>
      rw [Bool.and_eq_true] at hc
      obtain ⟨hc, hl⟩ := hc
      split at h
      · next i1 t cs x h1 h2 h3 h4 =>
        split at h
        · next hs =>
          cases h
          have hsl : ∀ j ∈ slotsT t, j ∈ (ownOf X.N scope.names).map (·.2) := fun j hj => by
            have := List.all_eq_true.mp hs j hj
            simpa using this
          have hit : plainE it = true := by
            unfold cI at h1
            split at h1
            · next q => exact q
            · cases h1
          refine ⟨tg, it, ifs, t, i1, x, cs, _, rfl, rfl, iter_ok ok hr1 h1, blkOk_by hc, ?_, ?_, ?_, hsl, hit⟩
          · intro s H Cc cl fp
            exact n_ok (X := X.blk s H scope (compEnvC scope cl Cc X.env) fp) ok.calm ok.nd (fun x hx => targ_blk hx) h2
          · intro s H Cc cl fp
            exact tests_ok (X := X.blk s H scope (compEnvC scope cl Cc X.env) fp) (fun e i h => ih _ _ e i (blk_ok ok s H scope _ fp) rfl h) h3 (by simpa using hl)
          · intro s H Cc cl fp
            exact (ih (X.blk s H scope (compEnvC scope cl Cc X.env) fp) W0 elt x (blk_ok ok s H scope _ fp) rfl h4).1
        · cases h
      · cases h
    · cases h
  · cases h
theorem step_ok {r : Scope → Expr → Option E} {N : List PySem.Str} (ih : Served T C r N) : Served T C (stepE T N r) N := by
  intro X W e i ok hN h
  subst hN
  have hr : ∀ e i, r X.env.scope e = some i → Both X C W e i := fun e i h => ih X W e i ok rfl h
  have hr1 : ∀ e i, r X.env.scope e = some i → PE X e (tE C X W i) := fun e i h => (hr e i h).1
  have hu := ok.hu
  cases e with
  | Name x pos => exact both_of (name_ok ok h) fun _ => rfl
  | Constant c k pos => exact both_of (const_ok h) fun _ => rfl
  | BinOp a op b pos =>
    simp only [stepE] at h
    split at h
    · next o x y ho hx hy =>
      cases h
      have e := op_eq ho
      subst e
      exact both_of (e_bin (hr1 _ _ hx) (hr1 _ _ hy)) fun _ => rfl
    · cases h
  | UnaryOp op a pos =>
    simp only [stepE] at h
    split at h
    · simp only [Option.map_eq_some_iff] at h
      obtain ⟨j, h1, rfl⟩ := h
      exact both_of (e_neg (hr1 _ _ h1)) fun _ => rfl
    · simp only [Option.map_eq_some_iff] at h
      obtain ⟨j, h1, rfl⟩ := h
      exact ⟨e_not (hr1 _ _ h1), t_not (hr _ _ h1).2⟩
    · cases h
  | BoolOp op vs pos =>
    obtain ⟨q1, q2⟩ := bool_ok hr (pos := pos) h
    exact ⟨q1, q2.pt⟩
  | IfExp c a b pos =>
    simp only [stepE] at h
    split at h
    · next x y z hx hy hz =>
      cases h
      exact ⟨e_ite (hr _ _ hx).2 (hr1 _ _ hy) (hr1 _ _ hz), t_ite (hr _ _ hx).2 (hr _ _ hy).2 (hr _ _ hz).2⟩
    · cases h
  | Compare a ops cs pos => exact cmp_ok hu hr h
  | Tuple es k pos =>
    simp only [stepE, Option.map_eq_some_iff] at h
    obtain ⟨is, h1, rfl⟩ := h
    exact both_of (e_tup (args_ok hr1 h1)) fun _ => rfl
  | List es pos =>
    simp only [stepE, Option.map_eq_some_iff] at h
    obtain ⟨is, h1, rfl⟩ := h
    exact both_of (e_lst (args_ok hr1 h1)) fun _ => rfl
  | Dict ks vs pos =>
    simp only [stepE] at h
    split at h
    · next h15 =>
      simp only [Option.map_eq_some_iff] at h
      obtain ⟨ps, h1, rfl⟩ := h
      exact both_of (e_dict hr1 h1 h15) fun _ => rfl
    · cases h
  | Subscript a j pos =>
    simp only [stepE] at h
    split at h
    · split at h
      · next x y z hx hy hz =>
        cases h
        exact both_of (e_slc (hr1 _ _ hx) (o_ok hr1 hy) (o_ok hr1 hz)) fun _ => rfl
      · cases h
    · split at h
      · next hp =>
        split at h
        · next x y hx hy =>
          cases h
          exact both_of (e_idx hu (hr1 _ _ hx) (hr1 _ _ hy) hp) fun _ => rfl
        · cases h
      · cases h
  | ListComp elt gens scope pos =>
    obtain ⟨tg, it, ifs, t, j, x, cs, own, rfl, rfl, L⟩ := lc_parts ih ok rfl h
    exact both_of (imE (pe_lc ok.calm ok.nd L.iter L.blk L.tg L.ifs L.elt (fold_ok L.plain X.env)) fun σ H Q q => lc_read L.sl q) fun _ => rfl
  | Call f args kws pos =>
    simp only [stepE] at h
    split at h
    · split at h
      · exact both_of (call_ok ok hr1 h) fun _ => rfl
      · split at h
        · next hs => exact both_of (meth_ok ok hr1 hs h) fun _ => rfl
        · cases h
      · cases h
    · cases h
  | Attribute o f pos =>
    simp only [stepE, ok.cls] at h
    cases h
  | _ => cases h
theorem cE_ok {N : List PySem.Str} : ∀ n : Nat, Served T C (cE T N n) N
  | 0 => fun X W e i ok hN h => by cases h
  | n + 1 => fun X W e i ok hN h => step_ok (cE_ok n) X W e i ok hN h
end
end G
/-! The G machine over the hand layer: every compiled statement is served. -/
set_option Elab.async false
set_option linter.all false
set_option maxRecDepth 100000
namespace G
open PySem PySem.Spec L2
section
variable {X : Cx} {T : Tab} {C : Ctx} {W : WX}
/-- behind a statement of the machine -/
def PostS (X : Cx) (W : WX) (m : Mp) (H : Hp) (o : Out) (D : Ends) : Prop := match o with
  | .nx ρ μ => ∀ m' H' σ', Ext m H m' H' → RelM X m' H' μ → Loc X m' σ' ρ → D.nx σ' H'
  | .rt d μ => ∀ m' H' v, Ext m H m' H' → RelM X m' H' μ → Rp X.K m' v d → D.rt v H'
  | .bk ρ μ => ∀ m' H' σ', Ext m H m' H' → RelM X m' H' μ → Loc X m' σ' ρ → D.bk σ' H'
  | .ct ρ μ => ∀ m' H' σ', Ext m H m' H' → RelM X m' H' μ → Loc X m' σ' ρ → D.ct σ' H'
  | .ex c ρ μ => ∀ m' H' σ', Ext m H m' H' → RelM X m' H' μ → Loc X m' σ' ρ → ∀ A, cl X c = some A → W (.ref A) none σ' H'
  | .bad => False
theorem PostS.on {m m1 : Mp} {H H1 : Hp} {o : Out} {D : Ends} (h : PostS X W m H o D) (x : Ext m H m1 H1) : PostS X W m1 H1 o D := by
  cases o with
  | nx ρ μ => exact fun m' H' σ' x' => h m' H' σ' (x.trans x')
  | rt d μ => exact fun m' H' v x' => h m' H' v (x.trans x')
  | bk ρ μ => exact fun m' H' σ' x' => h m' H' σ' (x.trans x')
  | ct ρ μ => exact fun m' H' σ' x' => h m' H' σ' (x.trans x')
  | ex c ρ μ => exact fun m' H' σ' x' => h m' H' σ' (x.trans x')
  | bad => exact h
theorem of_ok {m : Mp} {H : Hp} {r : R D} {ρ : Env} {f : D → Mem → Out} {Ds : Ends} {σ : L2.St} (h : PostS X W m H (Out.of r ρ f) Ds) (loc : Loc X m σ ρ) : Post X (xw X W σ) m H r fun d μ1 m1 H1 => PostS X W m1 H1 (f d μ1) Ds := by
  cases r with
  | bad => exact h
  | ex c μ => exact fun m1 H1 x1 rel1 => h m1 H1 σ x1 rel1 (loc.mono x1.le)
  | ok d μ => exact fun m1 H1 x1 rel1 => PostS.on h x1
theorem test_ok {m : Mp} {H : Hp} {r : R D} {ρ : Env} {f : Bool → Mem → Out} {Ds : Ends} {σ : L2.St} (h : PostS X W m H (Out.test r ρ f) Ds) (loc : Loc X m σ ρ) : Post X (xw X W σ) m H r fun d μ1 m1 H1 => ∃ b, truth μ1 d = some b ∧ PostS X W m1 H1 (f b μ1) Ds := by
  cases r with
  | bad => exact h
  | ex c μ => exact fun m1 H1 x1 rel1 => h m1 H1 σ x1 rel1 (loc.mono x1.le)
  | ok d μ =>
    intro m1 H1 x1 rel1
    unfold Out.test at h
    simp only [] at h
    split at h
    · next b e => exact ⟨b, e, PostS.on h x1⟩
    · exact h.elim
theorem walk_ok {m : Mp} {H : Hp} {r : R Walk} {ρ : Env} {f : Walk → Mem → Out} {Ds : Ends} {σ : L2.St} (h : PostS X W m H (Out.walk r ρ f) Ds) (loc : Loc X m σ ρ) : Post X (xw X W σ) m H r fun d μ1 m1 H1 => PostS X W m1 H1 (f d μ1) Ds := by
  cases r with
  | bad => exact h
  | ex c μ => exact fun m1 H1 x1 rel1 => h m1 H1 σ x1 rel1 (loc.mono x1.le)
  | ok d μ => exact fun m1 H1 x1 rel1 => PostS.on h x1
def tS (C : Ctx) (X : Cx) (W : WX) (s : S) : TS := fun Ds σ H => ∃ m ρ μ, RelM X m H μ ∧ Loc X m σ ρ ∧ PostS X W m H (exec C s ρ μ) Ds
def tSs (C : Ctx) (X : Cx) (W : WX) (s : Ss) : TS := fun Ds σ H => ∃ m ρ μ, RelM X m H μ ∧ Loc X m σ ρ ∧ PostS X W m H (execs C s ρ μ) Ds
/-! ### blocks of statements -/
theorem ss_nil : PSs X [] (tSs C X W .nil) := by
  refine imSs pss_nil fun Ds σ H q => ?_
  obtain ⟨m, ρ, μ, rel, loc, p⟩ := q
  simp only [execs] at p
  exact p m H σ (Ext.refl _ _) rel loc
theorem seq_ok {m : Mp} {H : Hp} {o : Out} {f : Env → Mem → Out} {Ds : Ends} (h : PostS X W m H (match o with
    | .nx ρ1 μ1 => f ρ1 μ1
    | o => o) Ds) : PostS X W m H o { Ds with nx := fun σ' H' => ∃ m' ρ μ, RelM X m' H' μ ∧ Loc X m' σ' ρ ∧ PostS X W m' H' (f ρ μ) Ds } := by
  cases o with
  | nx ρ μ => exact fun m' H' σ' x rel loc => ⟨m', ρ, μ, rel, loc, PostS.on h x⟩
  | rt d μ => exact h
  | bk ρ μ => exact h
  | ct ρ μ => exact h
  | ex c ρ μ => exact h
  | bad => exact h
theorem ss_cons {s : Stmt} {ss : List Stmt} {i : S} {is : Ss} (h1 : PS X s (tS C X W i)) (h2 : PSs X ss (tSs C X W is)) : PSs X (s :: ss) (tSs C X W (.cons i is)) := by
  refine imSs (pss_cons h1 h2) fun Ds σ H q => ?_
  obtain ⟨m, ρ, μ, rel, loc, p⟩ := q
  simp only [execs] at p
  exact ⟨m, ρ, μ, rel, loc, seq_ok p⟩
theorem ss_ok {r : Stmt → Option S} (hr : ∀ s i, r s = some i → PS X s (tS C X W i)) : ∀ {ss : List Stmt} {is : Ss}, cSs r ss = some is → PSs X ss (tSs C X W is)
  | [], _, h => by
    cases h
    exact ss_nil
  | s :: ss, is, h => by
    unfold cSs at h
    split at h
    · next a ha =>
      simp only [Option.map_eq_some_iff] at h
      obtain ⟨js, h1, rfl⟩ := h
      exact ss_cons (hr _ _ ha) (ss_ok hr h1)
    · cases h
/-! ### stores -/
def rSt (X : Cx) (fr : Bool) : TSet := fun o i v H Q => ∃ m μ od id vd μ', RelM X m H μ ∧ Rp X.K m o od ∧ Rp X.K m i id ∧ Rp X.K m v vd ∧ store fr od id vd μ = some μ' ∧ ∀ m' H', Ext m H m' H' → RelM X m' H' μ' → Q H'
theorem set_ok (hu : X.A.units + 64 < cLine) {fr : Bool} : PSet X (rSt X fr) := by
  intro pins s σ H o i v ov iv u Q I ro ri rv h
  obtain ⟨m, μ, od, id, vd, μ', rel, r1, r2, r3, e, q⟩ := h
  unfold store at e
  cases od with
  | ref k =>
    simp only [] at e
    split at e
    · next es ek =>
      split at e
      · next n =>
        obtain ⟨m1, rel1, x1, r4⟩ := rel.freeze fr r3
        split at e
        · next ds e2 =>
          split at e
          · next j e3 =>
            cases e
            obtain ⟨l, rfl, hk, xs, h1, h2, h3⟩ := rel1.at_ (r1.mono x1.le) e2
            obtain ⟨rel2, x2⟩ := rel1.wr (o := .lst (xs.set j v)) hk h2 (c := .lst (ds.set j (if fr then frz1 vd μ else (vd, μ)).1)) ⟨_, upd_same, h2, h3.set j r4⟩
            cases r2
            rw [← h3.len, place_ix] at e3
            exact set_list pins s σ H _ _ v ov iv u Q I ro ri rv ⟨l, xs, n, j, rfl, rfl, h1, e3, q m1 _ (x1.trans x2) rel2⟩
          · cases e
        · cases e
      · cases e
    · next kvs ek =>
      split at e
      · next y ey =>
        split at e
        · next hl =>
          cases e
          obtain ⟨l, rfl, hk, ys, h1, h2, h3⟩ := rel.at_ r1 ek
          have hy := keyOf_V r2 ey
          subst hy
          obtain ⟨rel2, x2⟩ := rel.wr (o := .dK (putK ys (kk y) v)) hk h2 (c := .dict (kPut y vd kvs)) ⟨_, upd_same, h2, kPut_put r3 (keyOf_B r2 ey) h3⟩
          cases ro
          refine d_setItem (by omega) I (.inl ⟨ys, kk y, h1, rfl, by rw [h3.length, ← line_eq]; exact hl, rfl⟩) ri rv fun s' I' => ⟨_, I', q m _ x2 rel2⟩
        · cases e
      · cases e
    · cases e
  | _ => cases e
/-- targets -/
def onlyNx (Q : L2.St → Hp → Prop) : Ends := ⟨Q, fun _ _ => False, fun _ _ => False, fun _ _ => False⟩
def tA (C : Ctx) (X : Cx) (W : WX) (t : G.T) : TG := fun v σ H Q => ∃ m μ ρ d, RelM X m H μ ∧ Loc X m σ ρ ∧ Rp X.K m v d ∧ PostS X W m H (asgT C t d ρ μ) (onlyNx Q)
def tAs (C : Ctx) (X : Cx) (W : WX) (ts : Ts) : TGs := fun vs σ H Q => ∃ m μ ρ ds, RelM X m H μ ∧ Loc X m σ ρ ∧ Rps X.K m vs ds ∧ PostS X W m H (asgTs C ts ds ρ μ) (onlyNx Q)
theorem a_name {x : PySem.Str} {i : Nat} {pos : Pos} (nd : X.N.Nodup) (hi : slotAt x X.N 0 = some i) (hl : L2.Loc X.env.scope x) (hf : X.fn x = true ∨ X.env.scope.names.lookup x = some .local) : PG X (.Name x pos) (tA C X W (.name i)) := by
  refine imG (pg_name nd (slot_at hi) hl hf) fun v σ H Q q => ?_
  obtain ⟨m, μ, ρ, d, rel, loc, r, p⟩ := q
  simp only [asgT] at p
  exact p m H _ (Ext.refl _ _) rel (loc.set r i)
theorem a_sub (ok : Ok T C X W) {o i : Expr} {x y : E} {pos : Pos} (ho : PE X o (tE C X W x)) (hi : PE X i (tE C X W y)) (hp : plainE i = true) : PG X (.Subscript o i pos) (tA C X W (.sub x y)) := by
  refine imG (pg_sub ho hi (set_ok ok.hu (fr := C.fr)) ?_) fun v σ H Q q => ?_
  · intro v
    cases i <;> first | rfl | cases hp
  · obtain ⟨m, μ, ρ, d, rel, loc, r, p⟩ := q
    simp only [asgT] at p
    refine ⟨m, ρ, μ, rel, loc, (of_ok p loc).imp fun z μ1 m1 H1 x1 rel1 p1 w rw => ?_⟩
    refine ⟨m1, ρ, μ1, rel1, loc.mono x1.le, (of_ok p1 (loc.mono x1.le)).imp fun j μ2 m2 H2 x2 rel2 p2 u ru => ?_⟩
    cases e : store C.fr z j d μ2 with
    | none => rw [e] at p2; exact p2.elim
    | some μ3 =>
      rw [e] at p2
      exact ⟨m2, μ2, z, j, d, μ3, rel2, rw.mono x2.le, ru, (r.mono x1.le).mono x2.le, e, fun m' H' x' rel' => p2 m' H' σ x' rel' (((loc.mono x1.le).mono x2.le).mono x'.le)⟩
theorem as_ok {rt : Expr → Option G.T} (hrt : ∀ e t, rt e = some t → PG X e (tA C X W t)) : ∀ {es : List Expr} {ts : Ts}, cTs rt es = some ts → PGs X es (tAs C X W ts) ∧ plains es = true ∧ lenTs ts = es.length
  | [], _, h => by
    cases h
    refine ⟨imGs pgs_nil fun v σ H Q q => ?_, rfl, rfl⟩
    obtain ⟨m, μ, ρ, ds, rel, loc, r, p⟩ := q
    cases r with
    | nil =>
      simp only [asgTs] at p
      exact ⟨rfl, p m H σ (Ext.refl _ _) rel loc⟩
    | cons _ _ =>
      simp only [asgTs] at p
      exact p.elim
  | e :: es, ts, h => by
    unfold cTs at h
    split at h
    · next hp =>
      split at h
      · next a b ha hb =>
        cases h
        obtain ⟨q1, q2, q3⟩ := as_ok hrt hb
        refine ⟨imGs (pgs_cons (hrt _ _ ha) q1 (by rw [asg_one hp]; rfl)) fun v σ H Q q => ?_, by simpa [plains, hp] using q2, by simp [lenTs, q3]⟩
        obtain ⟨m, μ, ρ, ds, rel, loc, r, p⟩ := q
        cases r with
        | nil =>
          simp only [asgTs] at p
          exact p.elim
        | @cons v vs d ds r1 r2 =>
          simp only [asgTs] at p
          refine ⟨v, vs, rfl, m, μ, ρ, d, rel, loc, r1, ?_⟩
          cases eo : asgT C a d ρ μ with
          | nx ρ1 μ1 =>
            rw [eo] at p
            exact fun m' H' σ' x' rel' loc' => ⟨m', μ1, ρ1, ds, rel', loc', r2.mono x'.le, PostS.on p x'⟩
          | rt d μ => rw [eo] at p; exact fun m' H' v x r rr => p m' H' v x r rr
          | bk ρ μ => rw [eo] at p; exact fun m' H' v x r rr => p m' H' v x r rr
          | ct ρ μ => rw [eo] at p; exact fun m' H' v x r rr => p m' H' v x r rr
          | ex c ρ μ => rw [eo] at p; exact p
          | bad => rw [eo] at p; exact p
      · cases h
    · cases h
theorem t_ok (ok : Ok T C X W) {r : Expr → Option E} (hr : ∀ e i, r e = some i → PE X e (tE C X W i)) (hl : ∀ x, isLoc X.env.scope x = true → L2.Loc X.env.scope x ∧ (X.fn x = true ∨ X.env.scope.names.lookup x = some .local)) :
    ∀ {n : Nat} {e : Expr} {t : G.T}, cTg X.N X.env.scope r n e = some t → PG X e (tA C X W t)
  | 0, _, _, h => by cases h
  | n + 1, e, t, h => by
    unfold cTg at h
    split at h
    · split at h
      · next hx =>
        simp only [Option.map_eq_some_iff] at h
        obtain ⟨i, h1, rfl⟩ := h
        exact a_name ok.nd h1 (hl _ hx).1 (hl _ hx).2
      · cases h
    · simp only [Option.map_eq_some_iff] at h
      obtain ⟨ts, h1, rfl⟩ := h
      obtain ⟨q1, q2, q3⟩ := as_ok (fun e t he => t_ok ok hr hl (n := n) he) h1
      refine imG (pg_tup ok.calm q1 (asg_len q2) (asg_none q2)) fun v σ H Q q => ?_
      obtain ⟨m, μ, ρ, d, rel, loc, rv, p⟩ := q
      simp only [asgT] at p
      cases d with
      | tup ds =>
        simp only [getT] at p
        split at p
        · next hlen =>
          obtain ⟨a, xs, rfl, h3, h4⟩ := rel.getT rv
          exact ⟨a, xs, rfl, h3, by rw [h4.len, hlen, q3], m, μ, ρ, ds, rel, loc, h4, p⟩
        · exact p.elim
      | _ => exact p.elim
    · split at h
      · next hp =>
        split at h
        · next a b ha hb =>
          cases h
          exact a_sub ok (hr _ _ ha) (hr _ _ hb) hp
        · cases h
      · cases h
    · cases h
/-! ### single statements -/
theorem s_expr {e : Expr} {i : E} {pos : Pos} (he : PE X e (tE C X W i)) (hc : isComp e = false) : PS X (.Expr e pos) (tS C X W (.expr i)) := by
  refine imS (ps_expr he ?_) fun Ds σ H q => ?_
  · cases e <;> first | rfl | cases hc
  · obtain ⟨m, ρ, μ, rel, loc, p⟩ := q
    simp only [exec] at p
    exact ⟨m, ρ, μ, rel, loc, (of_ok p loc).imp fun x μ1 m1 H1 x1 rel1 p1 v rv => p1 m1 H1 σ (Ext.refl _ _) rel1 (loc.mono x1.le)⟩
def Out.plain : Out → Bool
  | .nx _ _ => true
  | .ex _ _ _ => true
  | .bad => true
  | _ => false
theorem plain_of {r : R D} {ρ : Env} {f : D → Mem → Out} (h : ∀ d μ, (f d μ).plain = true) : (Out.of r ρ f).plain = true := by
  cases r with
  | ok d μ => exact h d μ
  | ex c μ => rfl
  | bad => rfl
mutual
theorem asgT_plain {C : Ctx} : ∀ (t : G.T) (d : D) (ρ : Env) (μ : Mem), (asgT C t d ρ μ).plain = true
  | .name i, d, ρ, μ => by simp only [asgT]; rfl
  | .tup ts, d, ρ, μ => by
    simp only [asgT]
    split
    · split
      · exact asgTs_plain ts _ ρ μ
      · rfl
    · rfl
  | .attr o f, d, ρ, μ => by
    simp only [asgT]
    refine plain_of fun x μ1 => ?_
    split <;> rfl
  | .sub o i, d, ρ, μ => by
    simp only [asgT]
    refine plain_of fun x μ1 => plain_of fun y μ2 => ?_
    split <;> rfl
theorem asgTs_plain {C : Ctx} : ∀ (ts : Ts) (ds : List D) (ρ : Env) (μ : Mem), (asgTs C ts ds ρ μ).plain = true
  | .nil, ds, ρ, μ => by
    simp only [asgTs]
    split <;> rfl
  | .cons t r, ds, ρ, μ => by
    simp only [asgTs]
    split
    · next d ds =>
      have h := asgT_plain (C := C) t d ρ μ
      split
      · exact asgTs_plain r _ _ _
      · exact h
    · rfl
end
theorem asg_read {e : E} {t : G.T} {Ds : Ends} {σ : L2.St} {H : Hp} (q : tS C X W (.asg t e) Ds σ H) : tAsg (tE C X W e) (tA C X W t) Ds σ H := by
  obtain ⟨m, ρ, μ, rel, loc, p⟩ := q
  simp only [exec] at p
  refine ⟨m, ρ, μ, rel, loc, (of_ok p loc).imp fun x μ1 m1 H1 x1 rel1 p1 v rv => ?_⟩
  refine ⟨m1, μ1, ρ, x, rel1, loc.mono x1.le, rv, ?_⟩
  have hp := asgT_plain (C := C) t x ρ μ1
  cases e : asgT C t x ρ μ1 with
  | nx ρ' μ' => rw [e] at p1; exact p1
  | ex c ρ' μ' => rw [e] at p1; exact p1
  | bad => rw [e] at p1; exact p1
  | rt d μ => rw [e] at hp; cases hp
  | bk d μ => rw [e] at hp; cases hp
  | ct d μ => rw [e] at hp; cases hp
theorem name_read {e : E} {i : Nat} {Ds : Ends} {σ : L2.St} {H : Hp} (q : tS C X W (.asg (.name i) e) Ds σ H) : tE C X W e σ H fun x H1 => gName i x σ H1 Ds.nx := by
  obtain ⟨m, ρ, μ, rel, loc, p⟩ := q
  simp only [exec] at p
  refine ⟨m, ρ, μ, rel, loc, (of_ok p loc).imp fun x μ1 m1 H1 x1 rel1 p1 v rv => ?_⟩
  simp only [asgT] at p1
  exact p1 m1 H1 _ (Ext.refl _ _) rel1 ((loc.mono x1.le).set rv i)
/-- name = e -/
theorem s_set (ok : Ok T C X W) {n : Nat} {x : PySem.Str} {i : Nat} {e : Expr} {a : E} {p pos : Pos} (hi : slotAt x X.N 0 = some i) (hl : L2.Loc X.env.scope x) (hf : X.fn x = true ∨ X.env.scope.names.lookup x = some .local) (h : cE T X.N (n + 1) X.env.scope e = some a) : PS X (.Assign [.Name x p] e pos) (tS C X W (.asg (.name i) a)) := by
  have plain : swapsWith e (some (.Name x p)) pos.line X.env = pure false → PS X (.Assign [.Name x p] e pos) (tS C X W (.asg (.name i) a)) := fun hs =>
    imS (ps_set ok.nd (slot_at hi) hl (cE_ok (n + 1) X W e a ok rfl h).1 hs hf) fun Ds σ H q => name_read q
  cases e with
  | ListComp elt gens scope cpos =>
    obtain ⟨tg, it, ifs, t, j, y, cs, own, rfl, rfl, L⟩ := lc_parts (cE_ok n) ok rfl h
    have hs : swapsWith (.ListComp elt [⟨tg, it, ifs, 0⟩] scope cpos) (some (.Name x p)) pos.line X.env = pure (X.env.blockKind == .function && X.env.kindOf x == some .local && p.line == cpos.line && !(scope.names.any fun (n, k) => n == x && (k == .local || k == .cell))) := rfl
    cases hb : (X.env.blockKind == .function && X.env.kindOf x == some .local && p.line == cpos.line && !(scope.names.any fun (n, k) => n == x && (k == .local || k == .cell))) with
    | false =>
      rw [hb] at hs
      exact plain hs
    | true =>
      rw [hb] at hs
      simp only [Bool.and_eq_true, beq_iff_eq] at hb
      exact imS (ps_setLc ok.calm ok.nd (slot_at hi) hb.1.1.2 hs L.iter L.blk L.tg L.ifs L.elt (fold_ok L.plain X.env)) fun Ds σ H q => lc_read L.sl (name_read q)
  | SetComp _ _ _ _ => cases h
  | DictComp _ _ _ _ _ => cases h
  | _ => exact plain rfl
theorem s_ret {e : Expr} {i : E} {pos : Pos} (he : PE X e (tE C X W i)) : PS X (.Return (some e) pos) (tS C X W (.ret i)) := by
  refine imS (ps_ret he) fun Ds σ H q => ?_
  obtain ⟨m, ρ, μ, rel, loc, p⟩ := q
  simp only [exec] at p
  exact ⟨m, ρ, μ, rel, loc, (of_ok p loc).imp fun x μ1 m1 H1 x1 rel1 p1 v rv => p1 m1 H1 v (Ext.refl _ _) rel1 rv⟩
theorem s_retn {pos : Pos} : PS X (.Return none pos) (tS C X W .retn) := by
  refine imS ps_retN fun Ds σ H q => ?_
  obtain ⟨m, ρ, μ, rel, loc, p⟩ := q
  simp only [exec] at p
  exact p m H .non (Ext.refl _ _) rel .non
theorem s_pass {pos : Pos} : PS X (.Pass pos) (tS C X W .pass) := by
  refine imS ps_pass fun Ds σ H q => ?_
  obtain ⟨m, ρ, μ, rel, loc, p⟩ := q
  simp only [exec] at p
  exact p m H σ (Ext.refl _ _) rel loc
theorem s_doc {x : PySem.Str} {j : Nat} {p0 pos : Pos} : PS X (.Expr (.Constant (.str x) j p0) pos) (tS C X W .pass) := by
  refine imS ps_doc fun Ds σ H q => ?_
  obtain ⟨m, ρ, μ, rel, loc, p⟩ := q
  simp only [exec] at p
  exact p m H σ (Ext.refl _ _) rel loc
theorem s_brk {pos : Pos} : PS X (.Break pos) (tS C X W .brk) := by
  refine imS ps_break fun Ds σ H q => ?_
  obtain ⟨m, ρ, μ, rel, loc, p⟩ := q
  simp only [exec] at p
  exact p m H σ (Ext.refl _ _) rel loc
theorem s_cont {pos : Pos} : PS X (.Continue pos) (tS C X W .cont) := by
  refine imS ps_continue fun Ds σ H q => ?_
  obtain ⟨m, ρ, μ, rel, loc, p⟩ := q
  simp only [exec] at p
  exact p m H σ (Ext.refl _ _) rel loc
theorem s_ite {c : Expr} {a b : List Stmt} {i : E} {j k : Ss} {pos : Pos} (hc : PT X c (tT C X W i)) (ha : PSs X a (tSs C X W j)) (hb : PSs X b (tSs C X W k)) : PS X (.If c a b pos) (tS C X W (.ite i j k)) := by
  refine imS (ps_if hc ha hb) fun Ds σ H q => ?_
  obtain ⟨m, ρ, μ, rel, loc, p⟩ := q
  simp only [exec] at p
  refine ⟨m, ρ, μ, rel, loc, (test_ok p loc).imp fun x μ1 m1 H1 x1 rel1 ⟨b, e, p1⟩ => ⟨b, e, ?_⟩⟩
  cases b with
  | true => exact ⟨m1, ρ, μ1, rel1, loc.mono x1.le, p1⟩
  | false => exact ⟨m1, ρ, μ1, rel1, loc.mono x1.le, p1⟩
theorem s_aug (ok : Ok T C X W) {x : PySem.Str} {i : Nat} {op : Operator} {o : Op} {e : Expr} {a : E} {p pos : Pos} (hi : slotAt x X.N 0 = some i) (hl : L2.Loc X.env.scope x) (hf : X.fn x = true ∨ X.env.scope.names.lookup x = some .local) (ho : cAug op = some o) (he : PE X e (tE C X W a)) :
    PS X (.AugAssign (.Name x p) op e pos) (tS C X W (.augn i o a)) := by
  have go : ∀ {f : Int → Int → Int}, PIp X op (ipI f) → (∀ n k μ, G.bin o (.int n) (.int k) μ = .ok (.int (f n k)) μ) → PS X (.AugAssign (.Name x p) op e pos) (tS C X W (.augn i o a)) := fun {f} hp hb => by
    refine imS (ps_aug ok.nd (slot_at hi) hl he hp hf) fun Ds σ H q => ?_
    obtain ⟨m, ρ, μ, rel, loc, pp⟩ := q
    simp only [exec] at pp
    split at pp
    · next d e0 =>
      obtain ⟨v, e1, rv⟩ := loc.2 i d e0
      refine ⟨v, e1, m, ρ, μ, rel, loc, (of_ok pp loc).imp fun y μ1 m1 H1 x1 rel1 p1 u ru => ?_⟩
      cases d with
      | int n =>
        cases y with
        | int k =>
          simp only [hb] at p1
          cases rv
          cases ru
          exact ⟨n, k, rfl, rfl, p1 m1 H1 _ (Ext.refl _ _) rel1 ((loc.mono x1.le).set (.int _) i)⟩
        | _ => exact p1.elim
      | _ => cases y <;> exact p1.elim
    · exact pp.elim
  cases op with
  | Add =>
    cases ho
    exact go ip_add fun n k μ => rfl
  | Sub =>
    cases ho
    exact go ip_sub fun n k μ => rfl
  | _ => cases ho
theorem loop_ok {m : Mp} {H : Hp} {o : Out} {f : Env → Mem → Out} {Ds : Ends} (N : L2.St → Hp → Prop) (h : PostS X W m H (match o with
    | .nx ρ1 μ1 => f ρ1 μ1
    | .ct ρ1 μ1 => f ρ1 μ1
    | .bk ρ1 μ1 => .nx ρ1 μ1
    | .rt d μ1 => .rt d μ1
    | .ex c ρ1 μ1 => .ex c ρ1 μ1
    | .bad => .bad) Ds) (hN : ∀ m' H' σ' ρ μ, Ext m H m' H' → RelM X m' H' μ → Loc X m' σ' ρ → PostS X W m' H' (f ρ μ) Ds → N σ' H') : PostS X W m H o { Ds with nx := N, ct := N, bk := Ds.nx } := by
  cases o with
  | nx ρ μ => exact fun m' H' σ' x rel loc => hN m' H' σ' ρ μ x rel loc (PostS.on h x)
  | ct ρ μ => exact fun m' H' σ' x rel loc => hN m' H' σ' ρ μ x rel loc (PostS.on h x)
  | bk ρ μ => exact h
  | rt d μ => exact h
  | ex c ρ μ => exact h
  | bad => exact h
theorem s_while (hp : PassesOwn (model X.prog X.w) X.A X.env X.xe) {c : Expr} {b : List Stmt} {i : E} {j : Ss} {pos : Pos} (hc : PT X c (tT C X W i)) (hb : PSs X b (tSs C X W j)) : PS X (.While c b [] pos) (tS C X W (.whil i j)) := by
  refine imS (ps_while hp hc hb) fun Ds σ H q => ?_
  obtain ⟨m, ρ, μ, rel, loc, p⟩ := q
  simp only [exec] at p
  refine ⟨fun n σ H => ∃ m ρ μ, RelM X m H μ ∧ Loc X m σ ρ ∧ PostS X W m H (whileL (evalE C i) (execs C j) n ρ μ) Ds, ⟨C.w, m, ρ, μ, rel, loc, p⟩, ?_⟩
  rintro n σ H ⟨m, ρ, μ, rel, loc, p⟩
  cases n with
  | zero =>
    simp only [whileL] at p
    exact p.elim
  | succ n =>
    simp only [whileL] at p
    refine ⟨m, ρ, μ, rel, loc, (test_ok p loc).imp fun x μ1 m1 H1 x1 rel1 ⟨t, e, p1⟩ => ⟨t, e, ?_⟩⟩
    cases t with
    | true =>
      refine ⟨fun σ H => ∃ m ρ μ, RelM X m H μ ∧ Loc X m σ ρ ∧ PostS X W m H (whileL (evalE C i) (execs C j) n ρ μ) Ds, fun σ' H' h => ⟨n, Nat.lt_succ_self n, h⟩, m1, ρ, μ1, rel1, loc.mono x1.le, ?_⟩
      exact loop_ok _ p1 fun m' H' σ' ρ' μ' x' rel' loc' p' => ⟨m', ρ', μ', rel', loc', p'⟩
    | false => exact p1 m1 H1 σ (Ext.refl _ _) rel1 (loc.mono x1.le)
theorem s_for (hp : PassesOwn (model X.prog X.w) X.A X.env X.xe) (ok : Ok T C X W) {tg it : Expr} {b : List Stmt} {t : G.T} {i : I} {j : Ss} {pos : Pos} (hi : PI X tg it (tI C X W i)) (hg : PG X tg (tBn X t)) (hb : PSs X b (tSs C X W j)) (hf : ∀ x, foldedSetIterable it X.env x = pure x) :
    PS X (.For tg it b [] pos) (tS C X W (.for t i j)) := by
  refine imS (ps_for hp ok.calm hi hg hb hf) fun Ds σ H q => ?_
  obtain ⟨m, ρ, μ, rel, loc, p⟩ := q
  simp only [exec] at p
  refine ⟨m, ρ, μ, rel, loc, (walk_ok p loc).imp fun w μ1 m1 H1 x1 rel1 p1 J hJ => ?_⟩
  generalize hst : (fun d ρ1 μ2 => match bindT t d ρ1 with
    | some ρ2 => execs C j ρ2 μ2
    | none => Out.bad) = step at p1
  let Inv1 : Nat → L2.St → Hp → Prop := fun i σ H => ∃ m' ρ' μ', Ext m1 H1 m' H ∧ RelM X m' H μ' ∧ Loc X m' σ ρ' ∧ i ≤ w.items.length ∧ PostS X W m' H (forL w.keep step (w.items.drop i) ρ' μ') Ds
  refine ⟨fun i n σ H => n = w.items.length - i ∧ Inv1 i σ H, ⟨w.items.length, by simp, m1, ρ, μ1, Ext.refl _ _, rel1, loc.mono x1.le, Nat.zero_le _, by simpa using p1⟩, ?_⟩
  rintro i n σ H ⟨rfl, m', ρ', μ', x', rel', loc', hi, pp⟩
  by_cases hlt : i < w.items.length
  · rw [List.drop_eq_getElem_cons hlt] at pp
    simp only [forL] at pp
    by_cases hk : w.keep μ' = true
    · rw [if_pos hk] at pp
      obtain ⟨_, hgo⟩ := hJ i H m' μ' x' rel' hk
      obtain ⟨go, hy⟩ := hgo _ (List.getElem?_eq_getElem hlt)
      refine .inr ⟨go, Inv1 (i + 1), fun σ' H' h' => ⟨w.items.length - (i + 1), by omega, rfl, h'⟩, fun x H' y => ?_⟩
      obtain ⟨m3, x3, rel3, rx⟩ := hy x H' y
      subst hst
      simp only [] at pp
      cases hb : bindT t w.items[i] ρ' with
      | none => rw [hb] at pp; exact pp.elim
      | some ρ1 =>
        rw [hb] at pp
        refine ⟨m3, μ', ρ', _, ρ1, rel3, loc'.mono x3.le, rx, hb, fun σ2 loc2 _ _ => ⟨m3, ρ1, μ', rel3, loc2, ?_⟩⟩
        exact loop_ok _ (PostS.on pp x3) fun m4 H4 σ4 ρ4 μ4 x4 rel4 loc4 p4 => ⟨m4, ρ4, μ4, (x'.trans x3).trans x4, rel4, loc4, hlt, p4⟩
    · rw [if_neg hk] at pp
      exact pp.elim
  · have e0 : i = w.items.length := by omega
    subst e0
    rw [List.drop_length] at pp
    simp only [forL] at pp
    by_cases hk : w.keep μ' = true
    · rw [if_pos hk] at pp
      obtain ⟨hst, _⟩ := hJ _ H m' μ' x' rel' hk
      exact .inl ⟨hst rfl, pp m' H σ (Ext.refl _ _) rel' loc'⟩
    · rw [if_neg hk] at pp
      exact pp.elim
theorem s_del {o i : Expr} {x y : E} {p0 pos : Pos} (ho : PE X o (tE C X W x)) (hi : PE X i (tE C X W y)) : PS X (.Delete [.Subscript o i p0] pos) (tS C X W (.del x y)) := by
  refine imS (ps_ddel ho hi) fun Ds σ H q => ?_
  obtain ⟨m, ρ, μ, rel, loc, p⟩ := q
  simp only [exec] at p
  refine ⟨m, ρ, μ, rel, loc, (of_ok p loc).imp fun z μ1 m1 H1 x1 rel1 p1 w rw => ?_⟩
  refine ⟨m1, ρ, μ1, rel1, loc.mono x1.le, (of_ok p1 (loc.mono x1.le)).imp fun j μ2 m2 H2 x2 rel2 p2 u ru => ?_⟩
  cases e : delKey z j μ2 with
  | none => rw [e] at p2; exact p2.elim
  | some μ3 =>
    rw [e] at p2
    unfold delKey at e
    cases z with
    | ref k =>
      simp only [] at e
      split at e
      · next kvs ek =>
        split at e
        · next q eq =>
          split at e
          · next hs =>
            cases e
            obtain ⟨l, rfl, hk, ys, h1, h2, h3⟩ := rel2.at_ (rw.mono x2.le) ek
            have hv := kGet_valV q h3
            obtain ⟨d, hd⟩ := Option.isSome_iff_exists.mp hs
            rw [hd] at hv
            obtain ⟨v, hv, _⟩ := hv
            obtain ⟨rel3, x3⟩ := rel2.wr (o := .dK (dropK ys (kk q))) hk h2 (c := .dict (kDel q kvs)) ⟨_, upd_same, h2, kDel_drop h3⟩
            exact ⟨l, ys, kk q, rfl, h1, keyOf_V ru eq, by rw [hv]; rfl, p2 m2 _ σ x3 rel3 (((loc.mono x1.le).mono x2.le).mono x3.le)⟩
          · cases e
        · cases e
      · cases e
    | _ => cases e
/-! ### every statement -/
structure OkS (T : Tab) (C : Ctx) (X : Cx) (W : WX) : Prop extends Ok T C X W where
  pass : PassesOwn (model X.prog X.w) X.A X.env X.xe
  fn : ∀ x, X.fn x = true
theorem stepS_ok (ok : OkS T C X W) {n : Nat} {rs : Stmt → Option S} (ih : ∀ s i, rs s = some i → PS X s (tS C X W i)) {s : Stmt} {i : S} (h : stepS T X.N X.env.scope (cE T X.N (n + 1) X.env.scope) rs s = some i) : PS X s (tS C X W i) := by
  have hb : ∀ e i, cE T X.N (n + 1) X.env.scope e = some i → Both X C W e i := fun e i h => cE_ok (n + 1) X W e i ok.toOk rfl h
  have hr : ∀ e i, cE T X.N (n + 1) X.env.scope e = some i → PE X e (tE C X W i) := fun e i h => (hb e i h).1
  have hl : ∀ x, isLoc X.env.scope x = true → L2.Loc X.env.scope x ∧ (X.fn x = true ∨ X.env.scope.names.lookup x = some .local) := fun x hx => ⟨isLoc_ok hx, .inl (ok.fn x)⟩
  cases s with
  | Expr e pos =>
    simp only [stepS] at h
    split at h
    · cases h
      exact s_doc
    · split at h
      · cases h
      · next hc =>
        simp only [Option.map_eq_some_iff] at h
        obtain ⟨a, h1, rfl⟩ := h
        exact s_expr (hr _ _ h1) (by simpa using hc)
  | Assign ts e pos =>
    simp only [stepS] at h
    split at h
    · split at h
      · split at h
        · next hx =>
          split at h
          · next i a h1 h2 =>
            cases h
            exact s_set ok.toOk h1 (hl _ hx).1 (hl _ hx).2 h2
          · cases h
        · cases h
      · split at h
        · cases h
        · next ht =>
          split at h
          · next t a h1 h2 =>
            cases h
            have ht : isTupE e = false := by simpa using ht
            refine imS (ps_asg (hr _ _ h2) (t_ok ok.toOk hr hl h1) ?_ ?_ rfl) fun Ds σ H q => asg_read q
            · cases e <;> rfl
            · cases e <;> first | rfl | cases ht
          · cases h
      · split at h
        · next hp =>
          split at h
          · next x y a h1 h2 h3 =>
            cases h
            refine imS (ps_asg (hr _ _ h3) (a_sub ok.toOk (hr _ _ h1) (hr _ _ h2) hp) ?_ rfl rfl) fun Ds σ H q => asg_read q
            cases e <;> rfl
          · cases h
        · cases h
      · split at h
        · cases h
        · next hc => rw [ok.cls] at hc; simp at hc
      · cases h
    · cases h
  | AugAssign tg op e pos =>
    simp only [stepS] at h
    split at h
    · split at h
      · next hx =>
        split at h
        · next i o a h1 h2 h3 =>
          cases h
          exact s_aug ok.toOk h1 (hl _ hx).1 (hl _ hx).2 h2 (hr _ _ h3)
        · cases h
      · cases h
    · rw [ok.cls] at h
      cases h
    · cases h
  | Return v pos =>
    simp only [stepS] at h
    split at h
    · simp only [Option.map_eq_some_iff] at h
      obtain ⟨a, h1, rfl⟩ := h
      exact s_ret (hr _ _ h1)
    · cases h
      exact s_retn
  | If c a b pos =>
    simp only [stepS] at h
    split at h
    · next x y z h1 h2 h3 =>
      cases h
      exact s_ite (hb _ _ h1).2 (ss_ok ih h2) (ss_ok ih h3)
    · cases h
  | While c b orelse pos =>
    simp only [stepS] at h
    split at h
    · split at h
      · next x y h1 h2 =>
        cases h
        exact s_while ok.pass (hb _ _ h1).2 (ss_ok ih h2)
      · cases h
    · cases h
  | For tg it b orelse pos =>
    simp only [stepS] at h
    split at h
    · split at h
      · next t i y h1 h2 h3 =>
        cases h
        have hit : plainE it = true := by
          unfold cI at h2
          split at h2
          · next q => exact q
          · cases h2
        exact s_for ok.pass ok.toOk (iter_ok ok.toOk hr h2) (n_ok ok.calm ok.nd hl h1) (ss_ok ih h3) (fold_ok hit X.env)
      · cases h
    · cases h
  | Break pos =>
    cases h
    exact s_brk
  | Continue pos =>
    cases h
    exact s_cont
  | Pass pos =>
    cases h
    exact s_pass
  | Delete ts pos =>
    simp only [stepS] at h
    split at h
    · split at h
      · split at h
        · next x y h1 h2 =>
          cases h
          exact s_del (hr _ _ h1) (hr _ _ h2)
        · cases h
      · cases h
    · cases h
  | Raise exc cause pos =>
    simp only [stepS] at h
    split at h
    · rw [ok.cls] at h
      split at h <;> cases h
    · cases h
  | Try b hs orelse fin pos =>
    simp only [stepS] at h
    split at h
    · rw [ok.cls] at h
      split at h
      · split at h
        · next h1 _ _ => cases h1
        · cases h
      · cases h
    · cases h
  | _ => cases h
theorem cS_ok (ok : OkS T C X W) {n : Nat} : ∀ k : Nat, ∀ s i, cS T X.N X.env.scope (cE T X.N (n + 1) X.env.scope) k s = some i → PS X s (tS C X W i)
  | 0, s, i, h => by cases h
  | k + 1, s, i, h => stepS_ok ok (fun s i h => cS_ok ok k s i h) h
/-- a def's body -/
theorem body_ok (ok : OkS T C X W) {body : List Stmt} {params : Nat} {F : Fn} (h : cFn T X.N params X.env.scope body = some F) : PSs X body (tSs C X W F.body) := by
  simp only [cFn, Option.map_eq_some_iff] at h
  obtain ⟨b, h1, rfl⟩ := h
  exact ss_ok (fun s i h => cS_ok (n := 39) ok 40 s i h) h1
end
end G
/-! The G machine over the hand layer: all defs of a program, a law's end. -/
set_option Elab.async false
set_option linter.all false
set_option maxRecDepth 100000
namespace G
open PySem PySem.Spec L2 PyProof.Rows
/-- the machine n calls deep -/
def ctxN (P : Prog) (fr : Bool) (n : Nat) : Ctx := ⟨run P fr n, P.w, P.rp, fr, P.sub⟩
/-- a def: its text, the machine's name of it, its slots, its parameters -/
structure GD where
  d : He.DefD
  f : String
  N : List PySem.Str
  ps : List PySem.Str
/-- what is checked of it -/
structure GD.Ok (g : GD) (T : Tab) (P : Prog) : Prop where
  scope : FnScope g.N g.ps g.d.scope
  comp : ∃ F, cFn T g.N g.ps.length g.d.scope g.d.body = some F ∧ P.fns g.f = some F
  bind : ∀ (kV doc pm : Value) (an : Option Addr) (cdv ct : Value) (us : List Value), us.length = g.ps.length → bindArgs (PySem.W.fnOf g.d.name g.d.qual g.d.params g.d.body g.d.scope .none kV doc pm an cdv ct) ⟨us, []⟩ = pure (g.ps.zip us)
/-- what the head says -/
structure Wd (T : Tab) (gs : List GD) (K : PySem.W.Frag) (mg : PySem.Str → Option Value) : Prop where
  lib : Lib mg
  con : ∀ x d, T.con.lookup x = some d → ∃ v u, mg x = some u ∧ RelV v u ∧ ∀ m, Rp K m v d
  cls : T.cls = []
  mth : T.mth = []
  fns : ∀ x f, T.fns.lookup x = some f → ∃ g ∈ gs, g.d.name = x ∧ g.f = f
  glo : ∀ g ∈ gs, mg g.d.name = some (.ref (He.ga K g.d.name))
  def_ : ∀ g ∈ gs, ∃ fd, FunD K g.d.name g.d.qual g.d.params g.d.body g.d.scope [] [] (He.ga K g.d.name) fd
theorem loc_start {X : Cx} {m : Mp} {N : List PySem.Str} {vs : List V} {ds : List D} (r : Rps X.K m vs ds) : Loc X m (L2.start N vs) (ds.map some ++ List.replicate (N.length - ds.length) none) := by
  have hl := r.len
  refine ⟨by simp [L2.start, hl], fun i d e => ?_⟩
  by_cases hi : i < ds.length
  · rw [List.getElem?_append_left (by simpa using hi), List.getElem?_map, Option.map_eq_some_iff] at e
    obtain ⟨d', h1, h2⟩ := e
    cases h2
    obtain ⟨v, hv, rv⟩ := r.get h1
    refine ⟨v, ?_, rv⟩
    unfold L2.start
    rw [List.getElem?_append_left (by rw [List.length_map, hl]; exact hi), List.getElem?_map, hv]
    rfl
  · rw [List.getElem?_append_right (by simpa using hi), List.getElem?_replicate] at e
    split at e <;> cases e
section
variable {Pr : Program} {w : World} {K : PySem.W.Frag} {mg : PySem.Str → Option Value} {base : Heap} {T : Tab} {P : Prog} {fr : Bool} {gs : List GD}
theorem fnO_all (wd : Wd T gs K mg) (hg : ∀ g ∈ gs, g.Ok T P) : ∀ (n : Nat), ∀ g ∈ gs, ∀ fd, FunD K g.d.name g.d.qual g.d.params g.d.body g.d.scope [] [] (He.ga K g.d.name) fd → FnO Pr w K mg base n (He.ga K g.d.name) fd g.ps (sG K mg (ctxN P fr n) g.f)
  | 0, g, hm, fd, F => by
    have no : ∀ vs H Q E, sG K mg (ctxN P fr 0) g.f vs H Q E → False := fun vs H Q E ⟨m, μ, ds, _, _, p⟩ => p
    exact ⟨fun vs H Q E h => (no vs H Q E h).elim, fun A outer s H args us vs Q E _ _ _ _ h => (no vs H Q E h).elim⟩
  | n + 1, g, hm, fd, F => by
    obtain ⟨oc, od, dV, kV, doc, pm, an, cdv, ct, osl, rfl, lk, hcd, _, _⟩ := F.ex
    have G := hg g hm
    obtain ⟨Fn, hF, hP⟩ := G.comp
    have hpar : Fn.params = g.ps.length ∧ Fn.slots = g.N.length := by
      simp only [cFn, Option.map_eq_some_iff] at hF
      obtain ⟨b, _, rfl⟩ := hF
      exact ⟨rfl, rfl⟩
    have open_ : ∀ {ds : List D} {μ : Mem} {m : Mp} {H : Hp} {Xc : String → Mem → Mp → Hp → Prop} {k : D → Mem → Mp → Hp → Prop}, PostG K mg Xc m H ((ctxN P fr (n + 1)).call g.f ds μ) k → ds.length = g.ps.length ∧
        PostG K mg Xc m H (match execs (ctxN P fr n) Fn.body (ds.map some ++ List.replicate (Fn.slots - ds.length) none) μ with
    | .nx _ μ1 => R.ok .non μ1
    | .rt d μ1 => .ok d μ1
    | .ex c _ μ1 => .ex c μ1
    | _ => .bad) k := fun {ds μ m H Xc k} p => by
      have p : PostG K mg Xc m H (run P fr (n + 1) g.f ds μ) k := p
      simp only [run, hP] at p
      unfold runFn at p
      split at p
      · next hl => exact ⟨hl.trans hpar.1, p⟩
      · exact p.elim
    refine fnO_of lk hcd G.scope (fun vs H Q E h => ?_) fun A outer s H vs Q E room h => ?_
    · obtain ⟨m, μ, ds, rel, r, p⟩ := h
      rw [r.len]
      exact (open_ p).1
    · obtain ⟨m, μ, ds, rel, r, p⟩ := h
      obtain ⟨hl, p⟩ := open_ p
      have X0 : ∃ X : Cx, X = cxOf (CX Pr w) Pr w K mg base g.N g.d.qual g.d.scope (He.ga K g.d.name) cdv A outer s H E := ⟨_, rfl⟩
      refine ⟨tSs (ctxN P fr n) (cxOf (CX Pr w) Pr w K mg base g.N g.d.qual g.d.scope (He.ga K g.d.name) cdv A outer s H E) (fun cls d _ H => E cls d H) Fn.body, ?_, ?_⟩
      · refine body_ok (T := T) ?_ hF
        refine ⟨⟨rfl, G.scope.nd, wd.lib, by have := room.room.un; show (A.deeper _).units + 200 < cLine; omega, takes_of rfl rfl rfl rfl, wd.con, fun x f hx => ?_, wd.cls, wd.mth⟩, passes_of rfl, fun _ => rfl⟩
        obtain ⟨g2, hm2, rfl, rfl⟩ := wd.fns x f hx
        obtain ⟨fd2, F2⟩ := wd.def_ g2 hm2
        exact ⟨He.ga K g2.d.name, wd.glo g2 hm2, F2.kp, n, fd2, g2.ps, fnO_all wd hg n g2 hm2 fd2 F2, room, F2.bindsN (hg g2 hm2).bind⟩
      · refine ⟨m, _, μ, rel, loc_start r, ?_⟩
        rw [hpar.2] at p
        cases eo : execs (ctxN P fr n) Fn.body (ds.map some ++ List.replicate (g.N.length - ds.length) none) μ with
        | nx ρ μ1 => rw [eo] at p; exact fun m' H' σ' x rel' _ => p m' H' x rel' .non .non
        | rt d μ1 => rw [eo] at p; exact fun m' H' v x rel' rv => p m' H' x rel' v rv
        | ex c ρ μ1 => rw [eo] at p; exact fun m' H' σ' x rel' _ A hA => p m' H' x rel' A hA
        | bk ρ μ1 => rw [eo] at p; exact p.elim
        | ct ρ μ1 => rw [eo] at p; exact p.elim
        | bad => rw [eo] at p; exact p.elim
end
end G
/-! The G machine over the hand layer: a law's end. -/
set_option Elab.async false
set_option linter.all false
set_option maxRecDepth 100000
namespace G
open PySem PySem.Spec L2 PyProof.Rows
/-- the library's end, for a promise that no guard stands around -/
theorem law_callG {Pr : Program} {w : World} {K : PySem.W.Frag} {mg mb : PySem.Str → Option Value} {k : Nat} {fa a : Addr} {fd : FuncData} {x : PySem.Str} {sp : Sp} {s : Shared} {vs : List Value} {ns : List Int}
    (KX : K.In s.heap) (hG : s.heap.Ns mainGlobals mg) (hB : s.heap.Ns builtinsNs mb) (hbb : ∀ x : PySem.Str, x ≠ "__name__" → mb x = bootBuiltins x) (hLim : s.heap.NoLimit) (hGen : s.gens = #[])
    (ha : s.heap.get? a = some { cls := .type "list", data := .seq vs.toArray }) (hi : IntsAre vs ns) (hl : ns.length ≤ sizeLine) (room : RoomG k callerA)
    (F : ∀ base : Heap, K.In base → base.Ns mainGlobals mg → FnO Pr w K mg base k fa fd [x] sp) (hbind : ∀ (t : Shared) (u : Value), BindsTo t fd ⟨[u], []⟩ [(x, u)])
    (hsp : ∀ H : Hp, Only H → SqX K H a (ns.map V.int) → sp [.ref a] H (fun v _ => v = .bl true) fun _ _ _ => False) :
    codeAny (model Pr w) callerA (.call (.ref fa) ⟨[.ref a], []⟩) (fun r t => r = .ok (.ret (.bool true)) ∧ OldK s.heap t.heap ∧ t.os = s.os ∧ AllBare t.gens) s := by
  have hv := vals_ints hi
  have hn := hi.length
  have main : ∀ H : Hp, Only H → SqX K H a (ns.map V.int) → HOk Pr w H s.heap → (∀ c, H c ≠ none → c = a) → (H a ≠ none → K.lookup a = none) →
      codeAny (model Pr w) callerA (.call (.ref fa) ⟨[.ref a], []⟩) (fun r t => r = .ok (.ret (.bool true)) ∧ OldK s.heap t.heap ∧ t.os = s.os ∧ AllBare t.gens) s := by
    intro H only sq hok onlyA notK
    have away : ∀ {c : Addr} {o : Obj}, s.heap.get? c = some o → H c = none → (hidT s.heap H).get? c = some o := fun e z => hidT_get e z
    have noDict : ∀ {c : Addr} {o : Obj} {es : Array DictEntry} {ep : Nat}, s.heap.get? c = some o → o.data = .dict es ep → H c = none := fun {c o es ep} e hd => by
      cases z : H c with
      | none => rfl
      | some u =>
        have ec : c = a := onlyA c (by rw [z]; exact fun y => nomatch y)
        rw [ec, ha] at e
        cases e
        cases (show Data.seq vs.toArray _ = Data.dict es ep from hd)
    have nsAway : ∀ {c : Addr} {m : PySem.Str → Option Value}, s.heap.Ns c m → (hidT s.heap H).Ns c m := fun {c m} h => by
      obtain ⟨o, es, ep, e, hd, r⟩ := h
      exact ⟨o, es, ep, away e (noDict e hd), hd, r⟩
    have KB : K.In (hidT s.heap H) := fun c o e => away (KX c o e) (by
      cases z : H c with
      | none => rfl
      | some u =>
        have ec : c = a := onlyA c (by rw [z]; exact fun y => nomatch y)
        rw [ec] at z e
        rw [notK (by rw [z]; exact fun y => nomatch y)] at e
        cases e)
    obtain ⟨mc, c1, c2⟩ := hLim
    have hM : Mod K mg (hidT s.heap H) := ⟨KB, nsAway hG, ⟨mb, nsAway hB, hbb⟩, ⟨mc, nsAway c1, c2⟩⟩
    have env : Env0 Pr w K mg (hidT s.heap H) callerA [] s H := ⟨rfl, hM, fun c o e => of_hidT e, Nat.le_of_eq (hidT_size _ _), trivial, fun c hc => (List.not_mem_nil hc).elim, hok, .of_eq hGen⟩
    refine codeAny_mono ((F _ KB (nsAway hG)).run callerA [] s H ⟨[.ref a], []⟩ [.ref a] [.ref a] _ _ room env (hbind s (.ref a)) (.cons rfl .nil) (hsp H only sq)) fun r t h => ?_
    cases r with
    | error e =>
      obtain ⟨_, _, _, _, _, _, _, _, _, _, _, _, no⟩ := h
      exact no.elim
    | ok fl =>
      cases fl with
      | ret u =>
        obtain ⟨v, H', os, bare, un, hok', rv, q⟩ := h
        have q : v = .bl true := q
        rw [q] at rv
        have hu : u = Value.bool true := rv
        rw [hu]
        refine ⟨rfl, OldK.of_keep fun c o e => ?_, os, bare⟩
        cases z : H c with
        | none => exact un.keep c o e z (fun y => List.not_mem_nil y) (fun y => List.not_mem_nil y)
        | some u =>
          rcases only c with y | ⟨ob, xs, y⟩
          · rw [z] at y
            cases y
          · obtain ⟨e1, _⟩ := hok c _ y
            obtain ⟨e2, _⟩ := hok' c _ (un.frzs c ob _ y)
            rw [e] at e1
            cases e1
            exact e2
      | _ => exact False.elim h
  cases hk : K.lookup a with
  | some o =>
    have e := KX a o hk
    rw [ha] at e
    cases e
    exact main (fun _ => none) (fun _ => .inl rfl) (.inr ⟨vs.toArray, _, hk, by rw [List.size_toArray, hn]; exact hl, by simpa using hv⟩) (fun c u z => nomatch (show (none : Option HO) = some u from z)) (fun c z => absurd rfl z) fun z => absurd rfl z
  | none =>
    refine main (fun c => if c = a then some (.frz { cls := .type "list", data := .seq vs.toArray } (.lst (ns.map V.int))) else none) (fun c => ?_) (.inl (.inr ⟨{ cls := .type "list", data := .seq vs.toArray }, if_pos rfl⟩)) (fun c u z => ?_) (fun c z => ?_) fun _ => hk
    · by_cases hc : c = a
      · exact .inr ⟨_, _, if_pos hc⟩
      · exact .inl (if_neg hc)
    · by_cases hc : c = a
      · have y := (if_pos hc).symm.trans z
        cases y
        rw [hc]
        exact ⟨ha, by rw [List.length_map]; exact hl, vs, _, hv, ha⟩
      · cases (if_neg hc).symm.trans z
    · by_cases hc : c = a
      · exact hc
      · exact absurd (if_neg hc) z
/-- the script, as the machine's own list -/
def scriptD (ns : List Int) : D := .lst (ns.map D.int)
/-- the machine's run of the law, at every script -/
def Runs (P : Prog) (fr : Bool) (k : Nat) (f : String) (most : Nat) : Prop := ∀ ns : List Int, ns.length ≤ most → (∀ i ∈ ns, Builtin.Int.intBits i ≤ 1048576) → ∃ μ, run P fr k f [scriptD ns] [] = .ok (.bl true) μ
theorem sp_of_run {K : PySem.W.Frag} {mg : PySem.Str → Option Value} {P : Prog} {fr : Bool} {k : Nat} {f : String} {H : Hp} {a : Addr} {ns : List Int} {μ : Mem} (h : run P fr k f [scriptD ns] [] = .ok (.bl true) μ) (sq : SqX K H a (ns.map V.int)) :
    sG K mg (ctxN P fr k) f [.ref a] H (fun v _ => v = .bl true) fun _ _ _ => False := by
  refine ⟨⟨fun _ => none, H⟩, [], [scriptD ns], ⟨fun _ _ e => e, fun k c e => (by simp at e), fun _ _ _ e => (by cases e), fun _ _ e => (by cases e)⟩, .cons (.lst sq (Rps.ofInts ns)) .nil, ?_⟩
  show PostG K mg _ _ H (run P fr k f [scriptD ns] []) _
  rw [h]
  intro m' H' _ _ v rv
  cases rv
  rfl
/-! ### from the head's facts -/
def libNames : List PySem.Str := ["len", "int", "str", "bool", "abs", "list", "tuple", "dict", "repr", "sorted", "sum", "min", "max", "any", "all", "range", "enumerate", "zip", "reversed", "isinstance"]
/-- constants of the module: ints and texts -/
inductive Kon where
  | int (x : PySem.Str) (i : Int)
  | str (x : PySem.Str) (t : Tx)
def Kon.fa : Kon → He.Fa
  | .int x i => .int x i
  | .str x t => .str x (cs t)
def Kon.con : Kon → PySem.Str × D
  | .int x i => (x, .int i)
  | .str x t => (x, .str t)
def tabOf (gs : List GD) (ks : List Kon) : Tab := ⟨gs.map fun g => (g.d.name, g.f), [], ks.map Kon.con, []⟩
def faOf (gs : List GD) (ks : List Kon) : List He.Fa := (gs.map fun g => .glo g.d.name) ++ (ks.map Kon.fa ++ libNames.map .free)
theorem says_mem {fa : List He.Fa} {fn : List He.DefD} {K : PySem.W.Frag} (c : He.SaysD fa fn K) {f : He.Fa} (h : f ∈ fa) : f.ok K = true := by
  obtain ⟨i, hi⟩ := List.getElem?_of_mem h
  exact c.fact i hi
theorem wd_of {gs : List GD} {ks : List Kon} {K : PySem.W.Frag} {h : Heap} {mg : PySem.Str → Option Value} (X : K.In h) (G : h.Ns mainGlobals mg) (c : He.SaysD (faOf gs ks) (gs.map GD.d) K) (hd : ∀ g ∈ gs, g.d.at_ = (g.d.name, none) ∧ g.d.dfl = [] ∧ g.d.kwd = [])
    (hks : ∀ x t, Kon.str x t ∈ ks → t.length ≤ line) : Wd (tabOf gs ks) gs K mg := by
  have free : ∀ x ∈ libNames, mg x = none := fun x hx => He.free_ok X G (says_mem c (List.mem_append_right _ (List.mem_append_right _ (List.mem_map_of_mem hx))))
  refine ⟨⟨?_, ?_, ?_, ?_, ?_, ?_, ?_, ?_, ?_, ?_, ?_, ?_, ?_, ?_, ?_, ?_, ?_, ?_, ?_, ?_⟩, fun x d e => ?_, rfl, rfl, fun x f e => ?_, fun g hg => ?_, fun g hg => ?_⟩
  all_goals try (exact free _ (by simp [libNames]))
  · have hm := of_lookup e
    obtain ⟨k, hk, ek⟩ := List.mem_map.mp hm
    cases k with
    | int y i =>
      cases ek
      obtain ⟨t, ht⟩ := He.int_ok X G (says_mem c (List.mem_append_right _ (List.mem_append_left _ (List.mem_map_of_mem (f := Kon.fa) hk))))
      exact ⟨.int i, _, ht, ⟨t, rfl⟩, fun _ => .int i⟩
    | str y z =>
      cases ek
      obtain ⟨t, ht⟩ := He.str_ok X G (says_mem c (List.mem_append_right _ (List.mem_append_left _ (List.mem_map_of_mem (f := Kon.fa) hk))))
      exact ⟨.str (cs z), _, ht, ⟨t, rfl⟩, fun _ => .str z (hks _ z hk)⟩
  · have hm := of_lookup e
    obtain ⟨g, hg, eg⟩ := List.mem_map.mp hm
    cases eg
    exact ⟨g, hg, rfl, rfl⟩
  · exact He.glo_ok X G (says_mem c (List.mem_append_left _ (List.mem_map_of_mem (f := fun g : GD => He.Fa.glo g.d.name) hg)))
  · obtain ⟨i, hi⟩ := List.getElem?_of_mem hg
    obtain ⟨fd, F⟩ := c.def_ i (d := g.d) (by rw [List.getElem?_map, hi]; rfl)
    obtain ⟨h1, h2, h3⟩ := hd g hg
    refine ⟨fd, ?_⟩
    have e1 : He.fAd K g.d.at_ = He.ga K g.d.name := by rw [h1]; rfl
    have e2 : g.d.dvs K = [] := by unfold He.DefD.dvs; rw [h2]; rfl
    have e3 : g.d.kws K = [] := by unfold He.DefD.kws; rw [h3]; rfl
    rw [e1, e2, e3] at F
    exact F
/-- the walk of a law from the machine's run -/
theorem walk_G {l : PySem.W.OpenLaw} {most k : Nat} {q : Program} {loose : List PySem.Str} {XP : (PySem.Str → Option Value) → Heap → Prop} {d : DefRec} {x : PySem.Str} {gs : List GD} {ks : List Kon} {P : Prog} {fr : Bool} {n : Nat} {g : GD}
    (hn : l.most = some most) (hn2 : most ≤ sizeLine) (hdf : d.params.defaults = []) (room : RoomG k callerA) (hg : ∀ g ∈ gs, g.Ok (tabOf gs ks) P) (hd : ∀ g ∈ gs, g.d.at_ = (g.d.name, none) ∧ g.d.dfl = [] ∧ g.d.kwd = []) (hks : ∀ x t, Kon.str x t ∈ ks → t.length ≤ line)
    (hm : g ∈ gs) (hname : g.d.name = d.name) (hps : g.ps = [x]) (hrun : Runs P fr k g.f most) :
    PySem.W.WalkO q loose XP (He.hookD n (faOf gs ks) (gs.map GD.d)).says l.row.toRowW d [] (fun f vs => PySem.call f vs) := by
  refine Att.attach_callB hn hdf fun w s₀ s₁ mg mb fa o pm cd doc a vs ns G Y ho hdat hcd hmg hobj hints hlen hbits hgen => ?_
  obtain ⟨K, KX, c⟩ := Y
  have wd := wd_of KX G.T.g c hd hks
  have e : fa = He.ga K g.d.name := by
    have q := wd.glo g hm
    rw [hname, hmg] at q
    cases q
    rw [hname]
  obtain ⟨fd, F⟩ := wd.def_ g hm
  obtain ⟨μ, hr⟩ := hrun ns hlen hbits
  have hb : ∀ (t : Shared) (u : Value), BindsTo t fd ⟨[u], []⟩ [(x, u)] := fun t u => by
    have z := F.bindsA (ps := g.ps) (hg g hm).bind t [u] (by rw [hps]; rfl)
    rw [hps] at z
    exact z
  refine law_callG (x := x) (sp := sG K mg (ctxN P fr k) g.f) KX G.T.g G.T.b G.T.builtins G.T.nolimit hgen hobj hints (Nat.le_trans hlen hn2) room (fun base hb1 hb2 => ?_) hb fun H _ sq => sp_of_run hr sq
  rw [e, ← hps]
  exact fnO_all wd hg k g hm fd F
end G
set_option Elab.async false
set_option linter.all false
set_option maxRecDepth 100000
namespace Pl
open G
def f_fitted : Fn := ⟨1, 1, (.cons (.ret (.bin .sub (.bin .mod (.bin .add (.var 0) (.lit (.int 1000000000))) (.lit (.int 2000000001))) (.lit (.int 1000000000)))) .nil)⟩
def f_applied : Fn := ⟨3, 3, (.cons (.ite (.cmp .eq (.var 0) (.lit (.str ['+']))) (.cons (.ret (.call "fitted" (.cons (.bin .add (.var 1) (.var 2)) .nil))) .nil) .nil) (.cons (.ite (.cmp .eq (.var 0) (.lit (.str ['-']))) (.cons (.ret (.call "fitted" (.cons (.bin .sub (.var 1) (.var 2)) .nil))) .nil) .nil) (.cons (.ite (.cmp .eq (.var 0) (.lit (.str ['*']))) (.cons (.ret (.call "fitted" (.cons (.bin .mul (.var 1) (.var 2)) .nil))) .nil) .nil) (.cons (.ite (.cmp .eq (.var 0) (.lit (.str ['<']))) (.cons (.ret (.cmp .lt (.var 1) (.var 2))) .nil) .nil) (.cons (.ite (.cmp .eq (.var 0) (.lit (.str ['<', '=']))) (.cons (.ret (.cmp .le (.var 1) (.var 2))) .nil) .nil) (.cons (.ite (.cmp .eq (.var 0) (.lit (.str ['=']))) (.cons (.ret (.cmp .eq (.var 1) (.var 2))) .nil) .nil) (.cons (.ite (.cmp .eq (.var 0) (.lit (.str ['a', 'n', 'd']))) (.cons (.ret (.blt .bool (.cons (.and (.var 1) (.var 2)) .nil))) .nil) .nil) (.cons (.ret (.blt .bool (.cons (.or (.var 1) (.var 2)) .nil))) .nil))))))))⟩
def f_value_of : Fn := ⟨3, 2, (.cons (.ite (.isi (.var 0) [.str]) (.cons (.ret (.idx (.var 1) (.var 0))) .nil) .nil) (.cons (.ite (.not (.isi (.var 0) [.tuple])) (.cons (.ret (.var 0)) .nil) .nil) (.cons (.ite (.cmp .eq (.idx (.var 0) (.lit (.int 0))) (.lit (.str ['n', 'o', 't']))) (.cons (.ret (.not (.call "value_of" (.cons (.idx (.var 0) (.lit (.int 1))) (.cons (.var 1) .nil))))) .nil) .nil) (.cons (.asg (.name 2) (.call "value_of" (.cons (.idx (.var 0) (.lit (.int 1))) (.cons (.var 1) .nil)))) (.cons (.ret (.call "applied" (.cons (.idx (.var 0) (.lit (.int 0))) (.cons (.var 2) (.cons (.call "value_of" (.cons (.idx (.var 0) (.lit (.int 2))) (.cons (.var 1) .nil))) .nil))))) .nil)))))⟩
def f__law_cell : Fn := ⟨2, 2, (.cons (.ite (.cmp .lt (.var 1) (.blt .len (.cons (.var 0) .nil))) (.cons (.ret (.blt .int (.cons (.idx (.var 0) (.var 1)) .nil))) .nil) .nil) (.cons (.ret (.lit (.int 0))) .nil))⟩
def f__law_draws : Fn := ⟨7, 2, (.cons (.asg (.name 2) (.lst .nil)) (.cons (.asg (.name 3) (.blt .abs (.cons (.blt .int (.cons (.var 0) .nil)) .nil))) (.cons (.asg (.name 4) (.bin .mod (.blt .int (.cons (.var 3) .nil)) (.lit (.int 2147483647)))) (.cons (.asg (.name 5) (.or (.cmp .lt (.var 0) (.lit (.int 0))) (.cmp .ge (.var 0) (.bin .pow (.lit (.int 10)) (.lit (.int 18)))))) (.cons (.for (.name 6) (.seq (.var 1)) (.cons (.ite (.and (.var 5) (.cmp .gt (.var 3) (.lit (.int 1)))) (.cons (.expr (.bm (.var 2) .append (.cons (.bin .mod (.blt .int (.cons (.var 3) .nil)) (.var 6)) .nil))) (.cons (.asg (.name 3) (.bin .fdiv (.var 3) (.var 6))) .nil)) (.cons (.asg (.name 4) (.bin .mod (.blt .int (.cons (.bin .add (.bin .mul (.var 4) (.lit (.int 48271))) (.lit (.int 11))) .nil)) (.lit (.int 2147483647)))) (.cons (.asg (.name 4) (.bin .mod (.blt .int (.cons (.bin .add (.bin .mul (.var 4) (.lit (.int 69621))) (.lit (.int 7))) .nil)) (.lit (.int 2147483647)))) (.cons (.expr (.bm (.var 2) .append (.cons (.bin .mod (.blt .int (.cons (.bin .fdiv (.var 4) (.lit (.int 13))) .nil)) (.var 6)) .nil))) .nil)))) .nil)) (.cons (.ret (.var 2)) .nil))))))⟩
def f__law_reserved : Fn := ⟨1, 0, (.cons (.asg (.name 0) (.lst (.cons (.lit (.str ['i', 'n', 't'])) (.cons (.lit (.str ['b', 'o', 'o', 'l'])) (.cons (.lit (.str ['c', 'h', 'a', 'n', 'n', 'e', 'l'])) (.cons (.lit (.str ['t', 'a', 's', 'k'])) (.cons (.lit (.str ['n', 'o', 'n', 'e'])) (.cons (.lit (.str ['t', 'r', 'u', 'e'])) (.cons (.lit (.str ['f', 'a', 'l', 's', 'e'])) (.cons (.lit (.str ['n', 'o', 't'])) (.cons (.lit (.str ['a', 'n', 'd'])) (.cons (.lit (.str ['o', 'r'])) (.cons (.lit (.str ['f', 'u', 'n', 'c'])) (.cons (.lit (.str ['l', 'e', 't'])) (.cons (.lit (.str ['s', 'e', 't'])) (.cons (.lit (.str ['e', 'm', 'i', 't'])) (.cons (.lit (.str ['i', 'f'])) .nil))))))))))))))))) (.cons (.asg (.name 0) (.bin .add (.var 0) (.lst (.cons (.lit (.str ['e', 'l', 's', 'e'])) (.cons (.lit (.str ['w', 'h', 'i', 'l', 'e'])) (.cons (.lit (.str ['r', 'e', 't', 'u', 'r', 'n'])) (.cons (.lit (.str ['t', 'h', 'r', 'o', 'w'])) (.cons (.lit (.str ['t', 'r', 'y'])) (.cons (.lit (.str ['c', 'a', 't', 'c', 'h'])) (.cons (.lit (.str ['f', 'i', 'n', 'a', 'l', 'l', 'y'])) (.cons (.lit (.str ['s', 'c', 'o', 'p', 'e'])) (.cons (.lit (.str ['w', 'a', 't', 'c', 'h'])) (.cons (.lit (.str ['s', 'h', 'i', 'e', 'l', 'd'])) (.cons (.lit (.str ['u', 's', 'i', 'n', 'g'])) (.cons (.lit (.str ['s', 'p', 'a', 'w', 'n'])) .nil))))))))))))))) (.cons (.asg (.name 0) (.bin .add (.var 0) (.lst (.cons (.lit (.str ['a', 'w', 'a', 'i', 't'])) (.cons (.lit (.str ['c', 'a', 'n', 'c', 'e', 'l'])) (.cons (.lit (.str ['o', 'p', 'e', 'n'])) (.cons (.lit (.str ['s', 'e', 'n', 'd'])) (.cons (.lit (.str ['r', 'e', 'c', 'e', 'i', 'v', 'e'])) (.cons (.lit (.str ['c', 'l', 'o', 's', 'e'])) (.cons (.lit (.str ['s', 'l', 'e', 'e', 'p'])) (.cons (.lit (.str ['y', 'i', 'e', 'l', 'd'])) (.cons (.lit (.str ['n', 'o', 'w'])) (.cons (.lit (.str ['c', 'a', 'l', 'l'])) (.cons (.lit (.str ['s', 'e', 'l', 'e', 'c', 't'])) (.cons (.lit (.str ['a', 'f', 't', 'e', 'r'])) .nil))))))))))))))) (.cons (.ret (.bin .add (.var 0) (.lst (.cons (.lit (.str ['d', 'e', 'f', 'a', 'u', 'l', 't'])) (.cons (.lit (.str ['e', 'n', 'd'])) .nil))))) .nil))))⟩
def f__law_names : Fn := ⟨13, 2, (.cons (.asg (.name 2) (.call "_law_reserved" .nil)) (.cons (.asg (.name 3) (.lit (.str ['a', 'b', 'c', 'd', 'e', 'f', 'g', 'h', 'i', 'j', 'k', 'l', 'm', 'n', 'o', 'p', 'q', 'r', 's', 't', 'u', 'v', 'w', 'x', 'y', 'z']))) (.cons (.asg (.name 4) (.bin .add (.var 3) (.lit (.str ['0', '1', '2', '3', '4', '5', '6', '7', '8', '9'])))) (.cons (.asg (.name 5) (.lst .nil)) (.cons (.for (.name 6) (.range (.cons (.var 1) .nil)) (.cons (.asg (.name 7) (.call "_law_draws" (.cons (.bin .add (.bin .fdiv (.blt .int (.cons (.var 0) .nil)) (.lit (.int 7))) (.bin .mul (.lit (.int 31)) (.var 6))) (.cons (.bin .add (.lst (.cons (.lit (.int 8)) (.cons (.lit (.int 26)) .nil))) (.bin .mul (.lst (.cons (.lit (.int 36)) .nil)) (.lit (.int 11)))) .nil)))) (.cons (.asg (.name 8) (.idx (.lst (.cons (.lit (.int 1)) (.cons (.lit (.int 1)) (.cons (.lit (.int 2)) (.cons (.lit (.int 3)) (.cons (.lit (.int 5)) (.cons (.lit (.int 7)) (.cons (.lit (.int 6)) (.cons (.lit (.int 12)) .nil))))))))) (.idx (.var 7) (.lit (.int 0))))) (.cons (.asg (.name 10) (.bin .add (.idx (.var 3) (.idx (.var 7) (.lit (.int 1)))) (.bm (.lit (.str [])) .join (.cons (.lc (.name 9) (.range (.cons (.bin .sub (.var 8) (.lit (.int 1))) .nil)) (.idx (.var 4) (.idx (.var 7) (.bin .add (.lit (.int 2)) (.var 9)))) .nil [12, 9]) .nil)))) (.cons (.ite (.cmp .eq (.idx (.var 7) (.lit (.int 0))) (.lit (.int 6))) (.cons (.asg (.name 11) (.lst (.cons (.lit (.str ['m', 'a', 'i', 'n'])) (.cons (.lit (.str ['n', 'o', 'r', 'm', 'a', 'l'])) (.cons (.lit (.str ['e', 'n', 'd', 's'])) (.cons (.lit (.str ['v', 'a', 'l', 'u', 'e'])) (.cons (.lit (.str ['n', 'u', 'm', 'b', 'e', 'r', '1'])) (.cons (.lit (.str ['i', 'n', 'd', 'e', 'x', '1'])) (.cons (.lit (.str ['t', 'e', 'm', 'p', '1'])) (.cons (.lit (.str ['h', 'i', 'd', 'd', 'e', 'n', '1'])) (.cons (.lit (.str ['s', 'l', 'o', 't', '0'])) (.cons (.lit (.str ['u', 's', 'i', 'n', 'g', '1'])) (.cons (.lit (.str ['t', '0'])) (.cons (.lit (.str ['s', 'e', 'l', 'e', 'c', 't', '1'])) .nil)))))))))))))) (.cons (.asg (.name 10) (.idx (.var 11) (.bin .mod (.blt .int (.cons (.idx (.var 7) (.lit (.int 1))) .nil)) (.lit (.int 12))))) .nil)) .nil) (.cons (.for (.name 9) (.range (.cons (.lit (.int 78)) .nil)) (.cons (.ite (.or (.cmp .isin (.var 10) (.var 5)) (.cmp .isin (.var 10) (.var 2))) (.cons (.asg (.name 10) (.bin .add (.bin .add (.idx (.var 3) (.bin .mod (.blt .int (.cons (.var 9) .nil)) (.lit (.int 26)))) (.blt .str (.cons (.var 6) .nil))) (.slc (.lit (.str ['x', 'x'])) .none (.some (.bin .fdiv (.var 9) (.lit (.int 26))))))) .nil) .nil) .nil)) (.cons (.expr (.bm (.var 5) .append (.cons (.var 10) .nil))) .nil))))))) (.cons (.ret (.var 5)) .nil))))))⟩
def f__law_expr : Fn := ⟨9, 4, (.cons (.asg (.name 4) (.call "_law_draws" (.cons (.var 0) (.cons (.lst (.cons (.lit (.int 8)) (.cons (.bin .pow (.lit (.int 10)) (.lit (.int 9))) (.cons (.bin .pow (.lit (.int 10)) (.lit (.int 9))) (.cons (.lit (.int 60)) (.cons (.lit (.int 2000000001)) (.cons (.lit (.int 3)) .nil))))))) .nil)))) (.cons (.asg (.name 5) (.lc (.name 8) (.seq (.var 2)) (.idx (.var 8) (.lit (.int 0))) (.cons (.cmp .eq (.idx (.var 8) (.lit (.int 1))) (.var 1)) .nil) [7, 8])) (.cons (.ite (.and (.cmp .gt (.blt .len (.cons (.var 5) .nil)) (.lit (.int 0))) (.cmp .eq (.bin .band (.idx (.var 4) (.lit (.int 0))) (.lit (.int 1))) (.lit (.int 1)))) (.cons (.ret (.idx (.var 5) (.bin .mod (.blt .int (.cons (.idx (.var 4) (.lit (.int 3))) .nil)) (.blt .len (.cons (.var 5) .nil))))) .nil) .nil) (.cons (.ite (.cmp .eq (.var 1) (.lit (.str ['i', 'n', 't']))) (.cons (.ite (.and (.cmp .gt (.var 3) (.lit (.int 0))) (.cmp .gt (.idx (.var 4) (.lit (.int 0))) (.lit (.int 3)))) (.cons (.asg (.name 6) (.idx (.lst (.cons (.lit (.str ['+'])) (.cons (.lit (.str ['-'])) (.cons (.lit (.str ['*'])) .nil)))) (.idx (.var 4) (.lit (.int 5))))) (.cons (.ret (.tup (.cons (.var 6) (.cons (.call "_law_expr" (.cons (.idx (.var 4) (.lit (.int 1))) (.cons (.lit (.str ['i', 'n', 't'])) (.cons (.var 2) (.cons (.bin .sub (.var 3) (.lit (.int 1))) .nil))))) (.cons (.call "_law_expr" (.cons (.idx (.var 4) (.lit (.int 2))) (.cons (.lit (.str ['i', 'n', 't'])) (.cons (.var 2) (.cons (.bin .sub (.var 3) (.lit (.int 1))) .nil))))) .nil))))) .nil)) .nil) (.cons (.ite (.cmp .eq (.idx (.var 4) (.lit (.int 0))) (.lit (.int 0))) (.cons (.ret (.bin .sub (.idx (.var 4) (.lit (.int 4))) (.lit (.int 1000000000)))) .nil) .nil) (.cons (.ret (.bin .sub (.idx (.var 4) (.lit (.int 3))) (.lit (.int 20)))) .nil))) .nil) (.cons (.ite (.and (.cmp .gt (.var 3) (.lit (.int 0))) (.cmp .eq (.idx (.var 4) (.lit (.int 0))) (.lit (.int 6)))) (.cons (.ret (.tup (.cons (.lit (.str ['n', 'o', 't'])) (.cons (.call "_law_expr" (.cons (.idx (.var 4) (.lit (.int 1))) (.cons (.lit (.str ['b', 'o', 'o', 'l'])) (.cons (.var 2) (.cons (.bin .sub (.var 3) (.lit (.int 1))) .nil))))) .nil)))) .nil) .nil) (.cons (.ite (.and (.cmp .gt (.var 3) (.lit (.int 0))) (.cmp .eq (.idx (.var 4) (.lit (.int 0))) (.lit (.int 4)))) (.cons (.asg (.name 6) (.idx (.lst (.cons (.lit (.str ['a', 'n', 'd'])) (.cons (.lit (.str ['o', 'r'])) .nil))) (.bin .band (.idx (.var 4) (.lit (.int 5))) (.lit (.int 1))))) (.cons (.ret (.tup (.cons (.var 6) (.cons (.call "_law_expr" (.cons (.idx (.var 4) (.lit (.int 1))) (.cons (.lit (.str ['b', 'o', 'o', 'l'])) (.cons (.var 2) (.cons (.bin .sub (.var 3) (.lit (.int 1))) .nil))))) (.cons (.call "_law_expr" (.cons (.idx (.var 4) (.lit (.int 2))) (.cons (.lit (.str ['b', 'o', 'o', 'l'])) (.cons (.var 2) (.cons (.bin .sub (.var 3) (.lit (.int 1))) .nil))))) .nil))))) .nil)) .nil) (.cons (.ite (.and (.cmp .gt (.var 3) (.lit (.int 0))) (.cmp .lt (.idx (.var 4) (.lit (.int 0))) (.lit (.int 4)))) (.cons (.asg (.name 6) (.idx (.lst (.cons (.lit (.str ['<'])) (.cons (.lit (.str ['<', '='])) (.cons (.lit (.str ['='])) .nil)))) (.idx (.var 4) (.lit (.int 5))))) (.cons (.ret (.tup (.cons (.var 6) (.cons (.call "_law_expr" (.cons (.idx (.var 4) (.lit (.int 1))) (.cons (.lit (.str ['i', 'n', 't'])) (.cons (.var 2) (.cons (.bin .sub (.var 3) (.lit (.int 1))) .nil))))) (.cons (.call "_law_expr" (.cons (.idx (.var 4) (.lit (.int 2))) (.cons (.lit (.str ['i', 'n', 't'])) (.cons (.var 2) (.cons (.bin .sub (.var 3) (.lit (.int 1))) .nil))))) .nil))))) .nil)) .nil) (.cons (.ret (.cmp .eq (.bin .band (.idx (.var 4) (.lit (.int 3))) (.lit (.int 1))) (.lit (.int 1)))) .nil))))))))⟩
def f__law_fitted : Fn := ⟨1, 1, (.cons (.ret (.bin .sub (.bin .mod (.blt .int (.cons (.bin .add (.var 0) (.lit (.int 1000000000))) .nil)) (.lit (.int 2000000001))) (.lit (.int 1000000000)))) .nil)⟩
def f__law_worth : Fn := ⟨5, 2, (.cons (.ite (.isi (.var 0) [.str]) (.cons (.ret (.idx (.var 1) (.var 0))) .nil) .nil) (.cons (.ite (.not (.isi (.var 0) [.tuple])) (.cons (.ret (.var 0)) .nil) .nil) (.cons (.asg (.name 2) (.idx (.var 0) (.lit (.int 0)))) (.cons (.asg (.name 3) (.call "_law_worth" (.cons (.idx (.var 0) (.lit (.int 1))) (.cons (.var 1) .nil)))) (.cons (.ite (.cmp .eq (.var 2) (.lit (.str ['n', 'o', 't']))) (.cons (.ret (.not (.var 3))) .nil) .nil) (.cons (.asg (.name 4) (.call "_law_worth" (.cons (.idx (.var 0) (.lit (.int 2))) (.cons (.var 1) .nil)))) (.cons (.ite (.cmp .isin (.var 2) (.lst (.cons (.lit (.str ['+'])) (.cons (.lit (.str ['-'])) (.cons (.lit (.str ['*'])) .nil))))) (.cons (.ret (.call "_law_fitted" (.cons (.idx (.dict (.cons (.lit (.str ['+'])) (.bin .add (.var 3) (.var 4)) (.cons (.lit (.str ['-'])) (.bin .sub (.var 3) (.var 4)) (.cons (.lit (.str ['*'])) (.bin .mul (.var 3) (.var 4)) .nil)))) (.var 2)) .nil))) .nil) .nil) (.cons (.ite (.cmp .isin (.var 2) (.lst (.cons (.lit (.str ['a', 'n', 'd'])) (.cons (.lit (.str ['o', 'r'])) .nil)))) (.cons (.ret (.idx (.lst (.cons (.or (.var 3) (.var 4)) (.cons (.and (.var 3) (.var 4)) .nil))) (.blt .int (.cons (.cmp .eq (.var 2) (.lit (.str ['a', 'n', 'd']))) .nil)))) .nil) .nil) (.cons (.ret (.idx (.dict (.cons (.lit (.str ['<'])) (.cmp .lt (.var 3) (.var 4)) (.cons (.lit (.str ['<', '='])) (.cmp .le (.var 3) (.var 4)) (.cons (.lit (.str ['='])) (.cmp .eq (.var 3) (.var 4)) .nil)))) (.var 2))) .nil)))))))))⟩
def f_law : Fn := ⟨13, 1, (.cons (.for (.name 1) (.seq (.bin .add (.lst (.cons (.lit (.int 1000000000)) (.cons (.neg (.lit (.int 1000000000))) (.cons (.lit (.int 1000000001)) (.cons (.neg (.lit (.int 1000000001))) (.cons (.lit (.int 0)) (.cons (.lit (.int 3000000000)) .nil))))))) (.var 0))) (.cons (.asg (.name 2) (.call "fitted" (.cons (.blt .int (.cons (.var 1) .nil)) .nil))) (.cons (.ite (.or (.not (.isi (.var 2) [.int])) (.or (.isi (.var 2) [.bool]) (.cmp .ne (.var 2) (.call "_law_fitted" (.cons (.blt .int (.cons (.var 1) .nil)) .nil))))) (.cons (.ret (.lit (.bl false))) .nil) .nil) (.cons (.ite (.or (.not (.chain .le .le (.neg (.lit (.int 1000000000))) (.var 2) (.lit (.int 1000000000)))) (.cmp .ne (.bin .mod (.blt .int (.cons (.bin .sub (.var 2) (.blt .int (.cons (.var 1) .nil))) .nil)) (.lit (.int 2000000001))) (.lit (.int 0)))) (.cons (.ret (.lit (.bl false))) .nil) .nil) (.cons (.ite (.and (.chain .le .le (.neg (.lit (.int 1000000000))) (.var 1) (.lit (.int 1000000000))) (.cmp .ne (.var 2) (.var 1))) (.cons (.ret (.lit (.bl false))) .nil) .nil) .nil))))) (.cons (.asg (.name 3) (.call "_law_draws" (.cons (.call "_law_cell" (.cons (.var 0) (.cons (.lit (.int 0)) .nil))) (.cons (.bin .add (.bin .add (.lst (.cons (.lit (.int 8)) .nil)) (.bin .mul (.lst (.cons (.lit (.int 2)) .nil)) (.lit (.int 8)))) (.bin .mul (.lst (.cons (.lit (.int 2000000001)) .nil)) (.lit (.int 8)))) .nil)))) (.cons (.asg (.name 4) (.call "_law_names" (.cons (.call "_law_cell" (.cons (.var 0) (.cons (.lit (.int 1)) .nil))) (.cons (.bin .add (.lit (.int 1)) (.idx (.var 3) (.lit (.int 0)))) .nil)))) (.cons (.asg (.name 5) (.dict .nil)) (.cons (.asg (.name 6) (.lst .nil)) (.cons (.for (.name 7) (.range (.cons (.blt .len (.cons (.var 4) .nil)) .nil)) (.cons (.asg (.sub (.var 5) (.idx (.var 4) (.var 7))) (.bin .mul (.bin .sub (.idx (.var 3) (.bin .add (.lit (.int 9)) (.var 7))) (.lit (.int 1000000000))) (.idx (.lst (.cons (.lit (.int 1)) (.cons (.lit (.int 1)) (.cons (.lit (.int 1000003)) .nil)))) (.bin .mod (.blt .int (.cons (.idx (.var 3) (.bin .add (.lit (.int 9)) (.var 7))) .nil)) (.lit (.int 3)))))) (.cons (.expr (.bm (.var 6) .append (.cons (.tup (.cons (.idx (.var 4) (.var 7)) (.cons (.idx (.lst (.cons (.lit (.str ['i', 'n', 't'])) (.cons (.lit (.str ['b', 'o', 'o', 'l'])) .nil))) (.idx (.var 3) (.bin .add (.lit (.int 1)) (.var 7)))) .nil))) .nil))) (.cons (.ite (.cmp .eq (.idx (.var 3) (.bin .add (.lit (.int 1)) (.var 7))) (.lit (.int 1))) (.cons (.asg (.sub (.var 5) (.idx (.var 4) (.var 7))) (.cmp .eq (.bin .band (.idx (.var 3) (.bin .add (.lit (.int 9)) (.var 7))) (.lit (.int 1))) (.lit (.int 1)))) .nil) .nil) .nil)))) (.cons (.asg (.name 8) (.blt .dict (.cons (.var 5) .nil))) (.cons (.for (.name 9) (.seq (.bin .add (.lst (.cons (.lit (.int 0)) (.cons (.lit (.int 1)) .nil))) (.slc (.var 0) (.some (.lit (.int 2))) .none))) (.cons (.asg (.name 10) (.idx (.lst (.cons (.lit (.str ['i', 'n', 't'])) (.cons (.lit (.str ['b', 'o', 'o', 'l'])) .nil))) (.bin .band (.blt .int (.cons (.var 9) .nil)) (.lit (.int 1))))) (.cons (.asg (.name 11) (.call "_law_expr" (.cons (.bin .fdiv (.blt .int (.cons (.var 9) .nil)) (.lit (.int 2))) (.cons (.var 10) (.cons (.var 6) (.cons (.bin .mod (.bin .fdiv (.blt .int (.cons (.var 9) .nil)) (.lit (.int 2))) (.lit (.int 8))) .nil)))))) (.cons (.asg (.name 2) (.call "value_of" (.cons (.var 11) (.cons (.var 5) .nil)))) (.cons (.asg (.name 12) (.call "_law_worth" (.cons (.var 11) (.cons (.var 8) .nil)))) (.cons (.ite (.or (.cmp .ne (.var 2) (.var 12)) (.or (.cmp .ne (.isi (.var 2) [.bool]) (.cmp .eq (.var 10) (.lit (.str ['b', 'o', 'o', 'l'])))) (.or (.not (.isi (.var 2) [.int])) (.cmp .ne (.var 5) (.var 8))))) (.cons (.ret (.lit (.bl false))) .nil) .nil) .nil)))))) (.cons (.ret (.lit (.bl true))) .nil)))))))))⟩
def fns : String → Option Fn := fun f =>
  if f = "fitted" then some f_fitted else
  if f = "applied" then some f_applied else
  if f = "value_of" then some f_value_of else
  if f = "_law_cell" then some f__law_cell else
  if f = "_law_draws" then some f__law_draws else
  if f = "_law_reserved" then some f__law_reserved else
  if f = "_law_names" then some f__law_names else
  if f = "_law_expr" then some f__law_expr else
  if f = "_law_fitted" then some f__law_fitted else
  if f = "_law_worth" then some f__law_worth else
  if f = "law" then some f_law else
  none
def P : Prog := ⟨fns, 100000, fun _ => [], fun _ _ => false⟩
end Pl
set_option Elab.async false
set_option linter.all false
set_option maxRecDepth 100000
set_option maxHeartbeats 1000000
namespace Pl
open G
abbrev Cn (n : Nat) : Ctx := ⟨run P true n, 100000, fun _ => [], true, fun _ _ => false⟩
theorem run_of {n : Nat} {f : String} {ds : List D} {μ : Mem} {F : Fn} (h : fns f = some F) : run P true (n + 1) f ds μ = runFn (Cn n) F ds μ := by
  simp only [run, P, h]
  rfl
theorem run_fitted (n : Nat) (i : Int) (μ : Mem) : run P true (n + 1) "fitted" [.int i] μ = .ok (.int ((i + 1000000000) % 2000000001 - 1000000000)) μ := rfl
theorem run_lfitted (n : Nat) (i : Int) (μ : Mem) : run P true (n + 1) "_law_fitted" [.int i] μ = .ok (.int ((i + 1000000000) % 2000000001 - 1000000000)) μ := rfl
def fitI (i : Int) : Int := (i + 1000000000) % 2000000001 - 1000000000
/-! ### expression trees -/
inductive Bo where | add | sub | mul | lt | le | eq | and | or
def Bo.tx : Bo → Tx
  | .add => ['+'] | .sub => ['-'] | .mul => ['*'] | .lt => ['<'] | .le => ['<', '='] | .eq => ['='] | .and => ['a', 'n', 'd'] | .or => ['o', 'r']
inductive Tr where
  | nm (x : Tx) | int (i : Int) | bl (b : Bool) | no (a : Tr) | bo (o : Bo) (a b : Tr)
def Tr.d : Tr → D
  | .nm x => .str x
  | .int i => .int i
  | .bl b => .bl b
  | .no a => .tup [.str ['n', 'o', 't'], a.d]
  | .bo o a b => .tup [.str o.tx, a.d, b.d]
def Tr.dep : Tr → Nat
  | .no a => a.dep + 1
  | .bo _ a b => max a.dep b.dep + 1
  | _ => 0
/-- values by kind -/
inductive Vl where | int (i : Int) | bl (b : Bool)
def Vl.d : Vl → D | .int i => .int i | .bl b => .bl b
def Vl.isB : Vl → Bool | .int _ => false | .bl _ => true
def op2 : Bo → Vl → Vl → Option Vl
  | .add, .int a, .int b => if mulOk a b then some (.int (fitI (a + b))) else none
  | .sub, .int a, .int b => if mulOk a b then some (.int (fitI (a - b))) else none
  | .mul, .int a, .int b => if mulOk a b then some (.int (fitI (a * b))) else none
  | .lt, .int a, .int b => some (.bl (decide (a < b)))
  | .le, .int a, .int b => some (.bl (decide (a ≤ b)))
  | .eq, .int a, .int b => some (.bl (a == b))
  | .and, .bl a, .bl b => some (.bl (a && b))
  | .or, .bl a, .bl b => some (.bl (a || b))
  | _, _, _ => none
def Tr.val (env : Tx → Option Vl) : Tr → Option Vl
  | .nm x => env x
  | .int i => some (.int i)
  | .bl b => some (.bl b)
  | .no a => match a.val env with
    | some (.bl b) => some (.bl (!b))
    | _ => none
  | .bo o a b => match a.val env, b.val env with
    | some x, some y => op2 o x y
    | _, _ => none
theorem run_applied (n : Nat) {o : Bo} {x y z : Vl} (μ : Mem) (h : op2 o x y = some z) : run P true (n + 2) "applied" [.str o.tx, x.d, y.d] μ = .ok z.d μ := by
  cases o <;> cases x <;> cases y <;> simp only [op2, reduceCtorEq, Option.some.injEq] at h
  · split at h
    · cases h; rfl
    · cases h
  · split at h
    · cases h; rfl
    · cases h
  · split at h
    · next e =>
      cases h
      rw [run_of (F := f_applied) rfl]
      simp [f_applied, runFn, execs, exec, Out.of, Out.test, evalE, evalEs, R.bind, G.bin, addD, mulD, ints2, Bo.tx, cmpR, cmpD, eqD, dictOf, eqSeq, look, D.noref, D.depth, D.eqv, truth, Vl.d, e, run_fitted, fitI]
    · cases h
  · subst h; rfl
  · subst h; rfl
  · subst h; rfl
  · rename_i a b
    subst h; cases a <;> cases b <;> rfl
  · rename_i a b
    subst h; cases a <;> cases b <;> rfl
/-! ### the store grows -/
theorem pre_get {μ ν : Mem} {k : Nat} {c : Cell} (h : μ[k]? = some c) : (μ ++ ν)[k]? = some c := by
  have hk := (List.getElem?_eq_some_iff.mp h).1
  rw [List.getElem?_append_left hk, h]
def envOf (kvs : List (Key × D)) (env : Tx → Option Vl) : Prop := ∀ x v, env x = some v → kGet (.inr x) kvs = some v.d
theorem val_at (v : Vl) (μ : Mem) : truth μ v.d = some (match v with | .int i => i != 0 | .bl b => b) := by cases v <;> rfl
theorem run_value (env : Tx → Option Vl) (kvs : List (Key × D)) (he : envOf kvs env) (k : Nat) : ∀ (t : Tr) (v : Vl) (n : Nat) (μ : Mem), t.val env = some v → μ[k]? = some (.dict kvs) → t.dep + 3 ≤ n → run P true n "value_of" [t.d, .ref k] μ = .ok v.d μ
  | .nm x, v, n + 1, μ, h, hk, hn => by
    rw [run_of (F := f_value_of) rfl]
    have e := he x v h
    simp [f_value_of, runFn, execs, exec, Out.of, Out.test, evalE, evalEs, R.bind, isTys, isTy, Tr.d, truth, item, hk, keyOf, e]
  | .int i, v, n + 1, μ, h, hk, hn => by
    cases h
    rw [run_of (F := f_value_of) rfl]
    simp [f_value_of, runFn, execs, exec, Out.of, Out.test, evalE, evalEs, R.bind, isTys, isTy, Tr.d, truth, Vl.d]
  | .bl b, v, n + 1, μ, h, hk, hn => by
    cases h
    rw [run_of (F := f_value_of) rfl]
    simp [f_value_of, runFn, execs, exec, Out.of, Out.test, evalE, evalEs, R.bind, isTys, isTy, Tr.d, truth, Vl.d]
  | .no a, v, n + 1, μ, h, hk, hn => by
    simp only [Tr.dep] at hn
    simp only [Tr.val] at h
    split at h
    · next b hb =>
      cases h
      have ih := run_value env kvs he k a (.bl b) n μ hb hk (by omega)
      rw [run_of (F := f_value_of) rfl]
      simp [f_value_of, runFn, execs, exec, Out.of, Out.test, evalE, evalEs, R.bind, isTys, isTy, Tr.d, truth, Vl.d, item, itemL, at_, place, cmpR, cmpD, eqD, dictOf, eqSeq, look, D.noref, D.depth, D.eqv, ih]
    · cases h
  | .bo o a b, v, n + 1, μ, h, hk, hn => by
    simp only [Tr.dep] at hn
    simp only [Tr.val] at h
    split at h
    · next x y hx hy =>
      have ih1 := run_value env kvs he k a x n μ hx hk (by omega)
      have ih2 := run_value env kvs he k b y n μ hy hk (by omega)
      have ap : run P true n "applied" [.str o.tx, x.d, y.d] μ = .ok v.d μ := by
        obtain ⟨m, rfl⟩ : ∃ m, n = m + 2 := ⟨n - 2, by omega⟩
        exact run_applied m μ h
      have ne : (o.tx == ['n', 'o', 't']) = false := by cases o <;> rfl
      rw [run_of (F := f_value_of) rfl]
      simp [f_value_of, runFn, execs, exec, Out.of, Out.test, evalE, evalEs, R.bind, isTys, isTy, Tr.d, truth, item, itemL, at_, place, cmpR, cmpD, eqD, dictOf, eqSeq, look, D.noref, D.depth, D.eqv, ne, ih1, ih2, ap, asgT]
    · cases h
theorem run_worth (env : Tx → Option Vl) (kvs : List (Key × D)) (he : envOf kvs env) (k : Nat) : ∀ (t : Tr) (v : Vl) (n : Nat) (μ : Mem), t.val env = some v → μ[k]? = some (.dict kvs) → t.dep + 3 ≤ n → ∃ ν, run P true n "_law_worth" [t.d, .ref k] μ = .ok v.d (μ ++ ν)
  | .nm x, v, n + 1, μ, h, hk, hn => by
    rw [run_of (F := f__law_worth) rfl]
    have e := he x v h
    exact ⟨[], by simp [f__law_worth, runFn, execs, exec, Out.of, Out.test, evalE, evalEs, R.bind, isTys, isTy, Tr.d, truth, item, hk, keyOf, e]⟩
  | .int i, v, n + 1, μ, h, hk, hn => by
    cases h
    rw [run_of (F := f__law_worth) rfl]
    exact ⟨[], by simp [f__law_worth, runFn, execs, exec, Out.of, Out.test, evalE, evalEs, R.bind, isTys, isTy, Tr.d, truth, Vl.d]⟩
  | .bl b, v, n + 1, μ, h, hk, hn => by
    cases h
    rw [run_of (F := f__law_worth) rfl]
    exact ⟨[], by simp [f__law_worth, runFn, execs, exec, Out.of, Out.test, evalE, evalEs, R.bind, isTys, isTy, Tr.d, truth, Vl.d]⟩
  | .no a, v, n + 1, μ, h, hk, hn => by
    simp only [Tr.dep] at hn
    simp only [Tr.val] at h
    split at h
    · next b hb =>
      cases h
      obtain ⟨ν, ih⟩ := run_worth env kvs he k a (.bl b) n μ hb hk (by omega)
      rw [run_of (F := f__law_worth) rfl]
      exact ⟨ν, by simp [f__law_worth, runFn, execs, exec, Out.of, Out.test, evalE, evalEs, R.bind, isTys, isTy, Tr.d, truth, Vl.d, item, itemL, at_, place, cmpR, cmpD, eqD, dictOf, eqSeq, look, D.noref, D.depth, D.eqv, ih, asgT]⟩
    · cases h
  | .bo o a b, v, n + 1, μ, h, hk, hn => by
    simp only [Tr.dep] at hn
    simp only [Tr.val] at h
    split at h
    · next x y hx hy =>
      obtain ⟨ν1, ih1⟩ := run_worth env kvs he k a x n μ hx hk (by omega)
      obtain ⟨ν2, ih2⟩ := run_worth env kvs he k b y n (μ ++ ν1) hy (pre_get hk) (by omega)
      have ne : (o.tx == ['n', 'o', 't']) = false := by cases o <;> rfl
      have fit : ∀ (i : Int) (μ : Mem), run P true n "_law_fitted" [.int i] μ = .ok (.int (fitI i)) μ := fun i μ => by
        obtain ⟨m, rfl⟩ : ∃ m, n = m + 1 := ⟨n - 1, by omega⟩
        rfl
      rw [run_of (F := f__law_worth) rfl]
      let L1 : Cell := .lst [.str ['+'], .str ['-'], .str ['*']]
      let L2 : Cell := .lst [.str ['a', 'n', 'd'], .str ['o', 'r']]
      cases o <;> cases x <;> cases y <;> simp only [op2, reduceCtorEq, Option.some.injEq] at h
      case add.int.int i j =>
        split at h
        · next e =>
          cases h
          refine ⟨ν1 ++ ν2 ++ [L1] ++ [.dict [(.inr ['+'], .int (i + j)), (.inr ['-'], .int (i - j)), (.inr ['*'], .int (i * j))]], ?_⟩
          simp [f__law_worth, runFn, execs, exec, Out.of, Out.test, evalE, evalEs, evalPs, R.bind, isTys, isTy, Tr.d, truth, item, itemL, at_, place, cmpR, cmpD, eqD, dictOf, eqSeq, look, D.noref, D.depth, D.eqv, ih1, ih2, asgT, Bo.tx, Vl.d, inD, frzIf, frz, frz1, newL, line, flat, G.bin, addD, ints2, mulD, keyOf, kPut, kGet, fit, bInt, b2i, blt, L1, L2, e]
        · cases h
      case sub.int.int i j =>
        split at h
        · next e =>
          cases h
          refine ⟨ν1 ++ ν2 ++ [L1] ++ [.dict [(.inr ['+'], .int (i + j)), (.inr ['-'], .int (i - j)), (.inr ['*'], .int (i * j))]], ?_⟩
          simp [f__law_worth, runFn, execs, exec, Out.of, Out.test, evalE, evalEs, evalPs, R.bind, isTys, isTy, Tr.d, truth, item, itemL, at_, place, cmpR, cmpD, eqD, dictOf, eqSeq, look, D.noref, D.depth, D.eqv, ih1, ih2, asgT, Bo.tx, Vl.d, inD, frzIf, frz, frz1, newL, line, flat, G.bin, addD, ints2, mulD, keyOf, kPut, kGet, fit, bInt, b2i, blt, L1, L2, e]
        · cases h
      case mul.int.int i j =>
        split at h
        · next e =>
          cases h
          refine ⟨ν1 ++ ν2 ++ [L1] ++ [.dict [(.inr ['+'], .int (i + j)), (.inr ['-'], .int (i - j)), (.inr ['*'], .int (i * j))]], ?_⟩
          simp [f__law_worth, runFn, execs, exec, Out.of, Out.test, evalE, evalEs, evalPs, R.bind, isTys, isTy, Tr.d, truth, item, itemL, at_, place, cmpR, cmpD, eqD, dictOf, eqSeq, look, D.noref, D.depth, D.eqv, ih1, ih2, asgT, Bo.tx, Vl.d, inD, frzIf, frz, frz1, newL, line, flat, G.bin, addD, ints2, mulD, keyOf, kPut, kGet, fit, bInt, b2i, blt, L1, L2, e]
        · cases h
      case lt.int.int i j =>
        cases h
        refine ⟨ν1 ++ ν2 ++ [L1] ++ [L2] ++ [.dict [(.inr ['<'], .bl (decide (i < j))), (.inr ['<', '='], .bl (decide (i ≤ j))), (.inr ['='], .bl (i == j))]], ?_⟩
        simp [f__law_worth, runFn, execs, exec, Out.of, Out.test, evalE, evalEs, evalPs, R.bind, isTys, isTy, Tr.d, truth, item, itemL, at_, place, cmpR, cmpD, eqD, dictOf, eqSeq, look, D.noref, D.depth, D.eqv, ih1, ih2, asgT, Bo.tx, Vl.d, inD, frzIf, frz, frz1, newL, line, flat, G.bin, addD, ints2, mulD, keyOf, kPut, kGet, fit, bInt, b2i, blt, L1, L2]
      case le.int.int i j =>
        cases h
        refine ⟨ν1 ++ ν2 ++ [L1] ++ [L2] ++ [.dict [(.inr ['<'], .bl (decide (i < j))), (.inr ['<', '='], .bl (decide (i ≤ j))), (.inr ['='], .bl (i == j))]], ?_⟩
        simp [f__law_worth, runFn, execs, exec, Out.of, Out.test, evalE, evalEs, evalPs, R.bind, isTys, isTy, Tr.d, truth, item, itemL, at_, place, cmpR, cmpD, eqD, dictOf, eqSeq, look, D.noref, D.depth, D.eqv, ih1, ih2, asgT, Bo.tx, Vl.d, inD, frzIf, frz, frz1, newL, line, flat, G.bin, addD, ints2, mulD, keyOf, kPut, kGet, fit, bInt, b2i, blt, L1, L2]
      case eq.int.int i j =>
        cases h
        refine ⟨ν1 ++ ν2 ++ [L1] ++ [L2] ++ [.dict [(.inr ['<'], .bl (decide (i < j))), (.inr ['<', '='], .bl (decide (i ≤ j))), (.inr ['='], .bl (i == j))]], ?_⟩
        simp [f__law_worth, runFn, execs, exec, Out.of, Out.test, evalE, evalEs, evalPs, R.bind, isTys, isTy, Tr.d, truth, item, itemL, at_, place, cmpR, cmpD, eqD, dictOf, eqSeq, look, D.noref, D.depth, D.eqv, ih1, ih2, asgT, Bo.tx, Vl.d, inD, frzIf, frz, frz1, newL, line, flat, G.bin, addD, ints2, mulD, keyOf, kPut, kGet, fit, bInt, b2i, blt, L1, L2]
      case and.bl.bl i j =>
        cases h
        refine ⟨ν1 ++ ν2 ++ [L1] ++ [L2] ++ [.lst [.bl (i || j), .bl (i && j)]], ?_⟩
        cases i <;> cases j <;> simp [f__law_worth, runFn, execs, exec, Out.of, Out.test, evalE, evalEs, evalPs, R.bind, isTys, isTy, Tr.d, truth, item, itemL, at_, place, cmpR, cmpD, eqD, dictOf, eqSeq, look, D.noref, D.depth, D.eqv, ih1, ih2, asgT, Bo.tx, Vl.d, inD, frzIf, frz, frz1, newL, line, flat, G.bin, addD, ints2, mulD, keyOf, kPut, kGet, fit, bInt, b2i, blt, L1, L2]
      case or.bl.bl i j =>
        cases h
        refine ⟨ν1 ++ ν2 ++ [L1] ++ [L2] ++ [.lst [.bl (i || j), .bl (i && j)]], ?_⟩
        cases i <;> cases j <;> simp [f__law_worth, runFn, execs, exec, Out.of, Out.test, evalE, evalEs, evalPs, R.bind, isTys, isTy, Tr.d, truth, item, itemL, at_, place, cmpR, cmpD, eqD, dictOf, eqSeq, look, D.noref, D.depth, D.eqv, ih1, ih2, asgT, Bo.tx, Vl.d, inD, frzIf, frz, frz1, newL, line, flat, G.bin, addD, ints2, mulD, keyOf, kPut, kGet, fit, bInt, b2i, blt, L1, L2]
    · cases h
end Pl
set_option Elab.async false
set_option linter.all false
set_option maxRecDepth 100000
set_option maxHeartbeats 1000000
namespace Pl
open G
def sget : Ss → Nat → S
  | .cons s _, 0 => s
  | .cons _ r, n + 1 => sget r n
  | .nil, _ => .pass
def sfor : S → Ss
  | .for _ _ b => b
  | _ => .nil
/-- a turn of a loop -/
def stepF (C : Ctx) (t : T) (b : Ss) : D → Env → Mem → Out := fun d ρ1 μ2 => match bindT t d ρ1 with
  | some ρ2 => execs C b ρ2 μ2
  | none => .bad
theorem forL_nx {keep : Mem → Bool} {step : D → Env → Mem → Out} {d : D} {ds : List D} {ρ ρ1 : Env} {μ μ1 : Mem} (hk : keep μ = true) (h : step d ρ μ = .nx ρ1 μ1) : forL keep step (d :: ds) ρ μ = forL keep step ds ρ1 μ1 := by
  simp only [forL, hk, if_true, h]
theorem execs_nx {C : Ctx} {s : S} {r : Ss} {ρ ρ1 : Env} {μ μ1 : Mem} (h : exec C s ρ μ = .nx ρ1 μ1) : execs C (.cons s r) ρ μ = execs C r ρ1 μ1 := by simp only [execs, h]
theorem execs_rt {C : Ctx} {s : S} {r : Ss} {ρ : Env} {d : D} {μ μ1 : Mem} (h : exec C s ρ μ = .rt d μ1) : execs C (.cons s r) ρ μ = .rt d μ1 := by simp only [execs, h]
theorem runFn_rt {C : Ctx} {F : Fn} {ds : List D} {ρ : Env} {d : D} {μ μ1 : Mem} (hl : ds.length = F.params) (hρ : ds.map some ++ List.replicate (F.slots - ds.length) none = ρ) (h : execs C F.body ρ μ = .rt d μ1) : runFn C F ds μ = .ok d μ1 := by
  unfold runFn
  rw [if_pos hl, hρ, h]
section
variable {C : Ctx} {ρ : Env} {μ : Mem}
theorem x_asg {t : T} {e : E} : exec C (.asg t e) ρ μ = Out.of (evalE C e ρ μ) ρ fun d μ1 => asgT C t d ρ μ1 := by simp only [exec]
theorem x_expr {e : E} : exec C (.expr e) ρ μ = Out.of (evalE C e ρ μ) ρ fun _ μ1 => .nx ρ μ1 := by simp only [exec]
theorem x_ite {c : E} {a b : Ss} : exec C (.ite c a b) ρ μ = Out.test (evalE C c ρ μ) ρ fun t μ1 => if t then execs C a ρ μ1 else execs C b ρ μ1 := by simp only [exec]
theorem x_ret {e : E} : exec C (.ret e) ρ μ = Out.of (evalE C e ρ μ) ρ fun d μ1 => .rt d μ1 := by simp only [exec]
theorem x_for {t : T} {i : I} {b : Ss} : exec C (.for t i b) ρ μ = Out.walk (walkI C i ρ μ) ρ fun w μ1 => forL w.keep (stepF C t b) w.items ρ μ1 := by
  simp only [exec]
  rfl
end
/-! ### the draws -/
def dr (free : Bool) : List Int → Int → Int → List Int
  | [], _, _ => []
  | l :: ls, rest, st => if free = true ∧ rest > 1 then (rest % l) :: dr free ls (rest / l) st else
      ((((st * 48271 + 11) % 2147483647 * 69621 + 7) % 2147483647 / 13) % l) :: dr free ls rest (((st * 48271 + 11) % 2147483647 * 69621 + 7) % 2147483647)
theorem dr_len (free : Bool) : ∀ (ls : List Int) (r s : Int), (dr free ls r s).length = ls.length
  | [], _, _ => rfl
  | l :: ls, r, s => by
    unfold dr
    split <;> simp [dr_len free ls]
def good (l : Int) : Prop := 0 < l ∧ l < 18446744073709551616
def draws (c : Int) (ls : List Int) : List Int := dr (decide (c < 0) || decide (c ≥ 1000000000000000000)) ls (if c < 0 then -c else c) ((if c < 0 then -c else c) % 2147483647)
abbrev dBody : Ss := sfor (sget f__law_draws.body 4)
theorem dr_step1 (n : Nat) (a0 a1 : Option D) (μ0 : Mem) (acc : List D) (rest st l : Int) (o6 : Option D) (hg : good l) (hl : acc.length < line) (hr : rest > 1) :
    stepF (Cn n) (.name 6) dBody (.int l) [a0, a1, some (.ref μ0.length), some (.int rest), some (.int st), some (.bl true), o6] (μ0 ++ [.lst acc]) =
      .nx [a0, a1, some (.ref μ0.length), some (.int (rest / l)), some (.int st), some (.bl true), some (.int l)] (μ0 ++ [.lst (acc ++ [.int (rest % l)])]) := by
  simp [stepF, dBody, f__law_draws, sget, sfor, bindT, execs, x_asg, x_expr, x_ite, Out.of, Out.test, evalE, evalEs, R.bind, truth, cmpR, cmpD, hr, blt, bInt, G.bin, ints2, hg.1, hg.2, bmeth, recv, getL, mAppend, frz1, hl, asgT]
theorem dr_step2 (n : Nat) (a0 a1 : Option D) (μ0 : Mem) (acc : List D) (rest st l : Int) (free : Bool) (o6 : Option D) (hg : good l) (hl : acc.length < line) (hr : ¬ (free = true ∧ rest > 1)) :
    stepF (Cn n) (.name 6) dBody (.int l) [a0, a1, some (.ref μ0.length), some (.int rest), some (.int st), some (.bl free), o6] (μ0 ++ [.lst acc]) =
      .nx [a0, a1, some (.ref μ0.length), some (.int rest), some (.int (((st * 48271 + 11) % 2147483647 * 69621 + 7) % 2147483647)), some (.bl free), some (.int l)] (μ0 ++ [.lst (acc ++ [.int ((((st * 48271 + 11) % 2147483647 * 69621 + 7) % 2147483647 / 13) % l)])]) := by
  cases free with
  | false => simp [stepF, dBody, f__law_draws, sget, sfor, bindT, execs, x_asg, x_expr, x_ite, Out.of, Out.test, evalE, evalEs, R.bind, truth, cmpR, cmpD, blt, bInt, G.bin, ints2, hg.1, hg.2, bmeth, recv, getL, mAppend, frz1, hl, asgT, mulD, mulOk, small, addD]
  | true =>
    have hr : ¬ (1 < rest) := fun h => hr ⟨rfl, h⟩
    simp [stepF, dBody, f__law_draws, sget, sfor, bindT, execs, x_asg, x_expr, x_ite, Out.of, Out.test, evalE, evalEs, R.bind, truth, cmpR, cmpD, hr, blt, bInt, G.bin, ints2, hg.1, hg.2, bmeth, recv, getL, mAppend, frz1, hl, asgT, mulD, mulOk, small, addD]
theorem dr_loop (n : Nat) (free : Bool) (a0 a1 : Option D) (μ0 : Mem) (keep : Mem → Bool) (hk : ∀ c, keep (μ0 ++ [c]) = true) : ∀ (ls : List Int) (acc : List D) (rest st : Int) (o6 : Option D), (∀ l ∈ ls, good l) → acc.length + ls.length ≤ line →
    ∃ x y z, forL keep (stepF (Cn n) (.name 6) dBody) (ls.map D.int) [a0, a1, some (.ref μ0.length), some (.int rest), some (.int st), some (.bl free), o6] (μ0 ++ [.lst acc]) =
      .nx [a0, a1, some (.ref μ0.length), x, y, some (.bl free), z] (μ0 ++ [.lst (acc ++ (dr free ls rest st).map D.int)])
  | [], acc, rest, st, o6, _, _ => by
    refine ⟨some (.int rest), some (.int st), o6, ?_⟩
    simp [forL, hk, dr]
  | l :: ls, acc, rest, st, o6, hg, hl => by
    have hgl := hg l List.mem_cons_self
    have hlen : acc.length < line := by simp only [List.length_cons] at hl; omega
    rw [List.map_cons]
    have ih := fun r s o a (h : a.length + ls.length ≤ line) => dr_loop n free a0 a1 μ0 keep hk ls a r s o (fun x hx => hg x (List.mem_cons_of_mem _ hx)) h
    by_cases hc : free = true ∧ rest > 1
    · obtain ⟨x, y, z, e⟩ := ih (rest / l) st (some (.int l)) (acc ++ [.int (rest % l)]) (by simp only [List.length_append, List.length_cons, List.length_nil] at *; omega)
      refine ⟨x, y, z, ?_⟩
      unfold dr
      rw [if_pos hc]
      obtain ⟨rfl, hc⟩ := hc
      rw [forL_nx (hk _) (dr_step1 n a0 a1 μ0 acc rest st l o6 hgl hlen hc), e]
      simp
    · obtain ⟨x, y, z, e⟩ := ih rest (((st * 48271 + 11) % 2147483647 * 69621 + 7) % 2147483647) (some (.int l)) (acc ++ [.int ((((st * 48271 + 11) % 2147483647 * 69621 + 7) % 2147483647 / 13) % l)]) (by simp only [List.length_append, List.length_cons, List.length_nil] at *; omega)
      refine ⟨x, y, z, ?_⟩
      unfold dr
      rw [if_neg hc, forL_nx (hk _) (dr_step2 n a0 a1 μ0 acc rest st l free o6 hgl hlen hc), e]
      simp
/-- the draws' call -/
theorem run_draws (n : Nat) (c : Int) (ls : List Int) (d : D) (μ : Mem) (hd : d = .lst (ls.map D.int) ∨ ∃ k, d = .ref k ∧ μ[k]? = some (.lst (ls.map D.int))) (hg : ∀ l ∈ ls, good l) (hl : ls.length ≤ line) :
    run P true (n + 1) "_law_draws" [.int c, d] μ = .ok (.ref μ.length) (μ ++ [.lst ((draws c ls).map D.int)]) := by
  have hw : ∃ keep : Mem → Bool, walkSeq (μ ++ [.lst []]) d = some ⟨ls.map D.int, keep⟩ ∧ ∀ c, keep (μ ++ [c]) = true := by
    rcases hd with rfl | ⟨k, rfl, hk⟩
    · exact ⟨_, rfl, fun _ => rfl⟩
    · refine ⟨fun μ => decide (getL μ (.ref k) = some (ls.map D.int)), by simp only [walkSeq, pre_get hk], fun c => ?_⟩
      simp only [getL, pre_get hk, decide_true]
  obtain ⟨keep, hw, hk⟩ := hw
  obtain ⟨x, y, z, e⟩ := dr_loop n (decide (c < 0) || decide (c ≥ 1000000000000000000)) (some (.int c)) (some d) μ keep hk ls [] (if c < 0 then -c else c) ((if c < 0 then -c else c) % 2147483647) none hg (by simpa using hl)
  rw [run_of (F := f__law_draws) rfl]
  have hor : evalE (Cn n) (.or (.cmp .lt (.var 0) (.lit (.int 0))) (.cmp .ge (.var 0) (.bin .pow (.lit (.int 10)) (.lit (.int 18))))) [some (.int c), some d, some (.ref μ.length), some (.int (if c < 0 then -c else c)), some (.int ((if c < 0 then -c else c) % 2147483647)), none, none] (μ ++ [.lst []]) =
      .ok (.bl (decide (c < 0) || decide (c ≥ 1000000000000000000))) (μ ++ [.lst []]) := by
    by_cases h : c < 0 <;> simp [evalE, R.bind, cmpR, cmpD, truth, G.bin, ints2, h]
  have hfor : exec (Cn n) (sget f__law_draws.body 4) [some (.int c), some d, some (.ref μ.length), some (.int (if c < 0 then -c else c)), some (.int ((if c < 0 then -c else c) % 2147483647)), some (.bl (decide (c < 0) || decide (c ≥ 1000000000000000000))), none] (μ ++ [.lst []]) =
      .nx [some (.int c), some d, some (.ref μ.length), x, y, some (.bl (decide (c < 0) || decide (c ≥ 1000000000000000000))), z] (μ ++ [.lst ((draws c ls).map D.int)]) := by
    show exec (Cn n) (.for (.name 6) (.seq (.var 1)) dBody) _ _ = _
    rw [x_for]
    simp only [walkI, evalE, R.bind, List.getElem?_cons_succ, List.getElem?_cons_zero, hw, optW, Out.walk]
    rw [e]
    rfl
  have hb : f__law_draws.body = .cons (sget f__law_draws.body 0) (.cons (sget f__law_draws.body 1) (.cons (sget f__law_draws.body 2) (.cons (sget f__law_draws.body 3) (.cons (sget f__law_draws.body 4) (.cons (sget f__law_draws.body 5) .nil))))) := rfl
  have h0 : exec (Cn n) (sget f__law_draws.body 0) [some (.int c), some d, none, none, none, none, none] μ = .nx [some (.int c), some d, some (.ref μ.length), none, none, none, none] (μ ++ [.lst []]) := rfl
  have h1 : exec (Cn n) (sget f__law_draws.body 1) [some (.int c), some d, some (.ref μ.length), none, none, none, none] (μ ++ [.lst []]) = .nx [some (.int c), some d, some (.ref μ.length), some (.int (if c < 0 then -c else c)), none, none, none] (μ ++ [.lst []]) := rfl
  have h2 : exec (Cn n) (sget f__law_draws.body 2) [some (.int c), some d, some (.ref μ.length), some (.int (if c < 0 then -c else c)), none, none, none] (μ ++ [.lst []]) = .nx [some (.int c), some d, some (.ref μ.length), some (.int (if c < 0 then -c else c)), some (.int ((if c < 0 then -c else c) % 2147483647)), none, none] (μ ++ [.lst []]) := rfl
  have h3 : exec (Cn n) (sget f__law_draws.body 3) [some (.int c), some d, some (.ref μ.length), some (.int (if c < 0 then -c else c)), some (.int ((if c < 0 then -c else c) % 2147483647)), none, none] (μ ++ [.lst []]) =
      .nx [some (.int c), some d, some (.ref μ.length), some (.int (if c < 0 then -c else c)), some (.int ((if c < 0 then -c else c) % 2147483647)), some (.bl (decide (c < 0) || decide (c ≥ 1000000000000000000))), none] (μ ++ [.lst []]) := by
    show exec (Cn n) (.asg (.name 5) _) _ _ = _
    rw [x_asg, hor]
    rfl
  have h5 : ∀ μ1, exec (Cn n) (sget f__law_draws.body 5) [some (.int c), some d, some (.ref μ.length), x, y, some (.bl (decide (c < 0) || decide (c ≥ 1000000000000000000))), z] μ1 = .rt (.ref μ.length) μ1 := fun _ => rfl
  refine runFn_rt rfl rfl ?_
  show execs (Cn n) f__law_draws.body [some (.int c), some d, none, none, none, none, none] μ = _
  rw [hb, execs_nx h0, execs_nx h1, execs_nx h2, execs_nx h3, execs_nx hfor]
  exact execs_rt (h5 _)
end Pl
set_option Elab.async false
set_option linter.all false
set_option maxRecDepth 100000
set_option maxHeartbeats 2000000
namespace Pl
open G
theorem dr_at (free : Bool) : ∀ (ls : List Int) (r s : Int) (i : Nat) (l : Int), (∀ l ∈ ls, good l) → ls[i]? = some l → ∃ v, (dr free ls r s)[i]? = some v ∧ 0 ≤ v ∧ v < l
  | [], _, _, _, _, _, h => by simp at h
  | x :: ls, r, s, 0, l, hg, h => by
    simp at h
    subst h
    have hx := (hg x List.mem_cons_self).1
    unfold dr
    split
    · exact ⟨_, rfl, Int.emod_nonneg _ (by omega), Int.emod_lt_of_pos _ hx⟩
    · exact ⟨_, rfl, Int.emod_nonneg _ (by omega), Int.emod_lt_of_pos _ hx⟩
  | x :: ls, r, s, i + 1, l, hg, h => by
    have h : ls[i]? = some l := by simpa using h
    have hg' : ∀ l ∈ ls, good l := fun l hl => hg l (List.mem_cons_of_mem _ hl)
    unfold dr
    split
    · obtain ⟨v, h1, h2⟩ := dr_at free ls (r / x) s i l hg' h
      exact ⟨v, by simpa using h1, h2⟩
    · obtain ⟨v, h1, h2⟩ := dr_at free ls r _ i l hg' h
      exact ⟨v, by simpa using h1, h2⟩
theorem draws_at {c : Int} {ls : List Int} {i : Nat} {l : Int} (hg : ∀ l ∈ ls, good l) (h : ls[i]? = some l) : ∃ v, (draws c ls)[i]? = some v ∧ 0 ≤ v ∧ v < l := dr_at _ ls _ _ i l hg h
theorem draws_len (c : Int) (ls : List Int) : (draws c ls).length = ls.length := dr_len _ ls _ _
/-- a turn of a comprehension -/
def elF (C : Ctx) (t : T) (cs : Es) (e : E) (ρ0 : Env) : D → Mem → R (Option D) := fun d μ2 => match bindT t d ρ0 with
  | some ρ1 => (testEs C cs ρ1 μ2).bind fun b μ3 => if b then (evalE C e ρ1 μ3).bind fun y μ4 => .ok (some y) μ4 else .ok none μ3
  | none => .bad
theorem x_lc {C : Ctx} {ρ : Env} {μ : Mem} {t : T} {i : I} {e : E} {cs : Es} {own : List Nat} : evalE C (.lc t i e cs own) ρ μ = (walkI C i ρ μ).bind fun w μ1 => (lcL w.keep (elF C t cs e (wipeE ρ own)) C.fr w.items [] μ1).calm.bind newL := by
  simp only [evalE]
  rfl
def kd (b : Bool) : Tx := if b then ['b', 'o', 'o', 'l'] else ['i', 'n', 't']
def seenD (seen : List (Tx × Bool)) : List D := seen.map fun p => .tup [.str p.1, .str (kd p.2)]
def fitD (seen : List (Tx × Bool)) (k : Bool) : List D := (seen.filter fun p => p.2 == k).map fun p => .str p.1
theorem fit_loop (C : Ctx) (k : Bool) (a0 a2 a3 a4 a5 a6 : Option D) (keep : Mem → Bool) (μ : Mem) (hk : keep μ = true) : ∀ (seen : List (Tx × Bool)) (acc : List D), acc.length + seen.length ≤ line →
    lcL keep (elF C (.name 8) (.cons (.cmp .eq (.idx (.var 8) (.lit (.int 1))) (.var 1)) .nil) (.idx (.var 8) (.lit (.int 0))) [a0, some (.str (kd k)), a2, a3, a4, a5, a6, none, none]) true (seenD seen) acc μ = .ok (acc ++ fitD seen k) μ
  | [], acc, _ => by simp [seenD, fitD, lcL, hk]
  | p :: seen, acc, hl => by
    have hl1 : acc.length < line := by simp only [List.length_cons] at hl; omega
    have ih := fun a (h : a.length + seen.length ≤ line) => fit_loop C k a0 a2 a3 a4 a5 a6 keep μ hk seen a h
    show lcL keep _ true (.tup [.str p.1, .str (kd p.2)] :: seenD seen) acc μ = _
    have he : elF C (.name 8) (.cons (.cmp .eq (.idx (.var 8) (.lit (.int 1))) (.var 1)) .nil) (.idx (.var 8) (.lit (.int 0))) [a0, some (.str (kd k)), a2, a3, a4, a5, a6, none, none] (.tup [.str p.1, .str (kd p.2)]) μ = .ok (if p.2 == k then some (.str p.1) else none) μ := by
      obtain ⟨x, b⟩ := p
      cases b <;> cases k <;> simp [elF, bindT, testEs, evalE, R.bind, item, itemL, at_, place, cmpR, cmpD, eqD, dictOf, eqSeq, look, D.noref, D.depth, D.eqv, truth, kd]
    simp only [lcL, hk, if_true, he, R.bind]
    cases hp : p.2 == k with
    | true =>
      simp only [if_true, hl1]
      have e := ih (acc ++ [.str p.1]) (by simp only [List.length_append, List.length_cons, List.length_nil] at *; omega)
      simp only [frz1]
      rw [e]
      simp [fitD, hp]
    | false =>
      simp only [Bool.false_eq_true, if_false]
      rw [ih acc (by simp only [List.length_cons] at hl; omega)]
      simp [fitD, hp]
/-- a tree of a kind, its value -/
def Vl.sm : Vl → Prop
  | .int i => -4611686018427387904 < i ∧ i < 4611686018427387904
  | .bl _ => True
structure Fine (env : Tx → Option Vl) (k : Bool) (dep : Nat) (t : Tr) (v : Vl) : Prop where
  val : t.val env = some v
  kind : v.isB = k
  sm : v.sm
  dep : t.dep ≤ dep
theorem fit_sm (i : Int) : (Vl.int (fitI i)).sm := by
  unfold Vl.sm fitI
  have h1 := Int.emod_nonneg (i + 1000000000) (b := 2000000001) (by omega)
  have h2 := Int.emod_lt_of_pos (i + 1000000000) (b := 2000000001) (by omega)
  omega
theorem mul_sm {i j : Int} (h : (Vl.int i).sm) : mulOk i j = true := by
  unfold Vl.sm at h
  unfold mulOk small
  have h1 : decide (-(2 ^ 64) < i) = true := decide_eq_true (by omega)
  have h2 : decide (i < 2 ^ 64) = true := decide_eq_true (by omega)
  rw [h1, h2]
  rfl
theorem frz_tr (t : Tr) (μ : Mem) : frz1 t.d μ = (t.d, μ) := by cases t <;> rfl
def arI : Bo → Bool
  | .add => true | .sub => true | .mul => true | _ => false
def arC : Bo → Bool
  | .lt => true | .le => true | .eq => true | _ => false
def arB : Bo → Bool
  | .and => true | .or => true | _ => false
theorem fine_ar {env : Tx → Option Vl} {dep : Nat} {o : Bo} {a b : Tr} {x y : Vl} (ho : arI o = true) (ha : Fine env false dep a x) (hb : Fine env false dep b y) : ∃ v, Fine env false (dep + 1) (.bo o a b) v := by
  have hx := ha.kind; have hy := hb.kind
  cases x with
  | bl _ => cases hx
  | int i => cases y with
    | bl _ => cases hy
    | int j =>
      have hm := mul_sm (j := j) ha.sm
      have hd : (Tr.bo o a b).dep ≤ dep + 1 := by have := ha.dep; have := hb.dep; simp only [Tr.dep]; omega
      cases o <;> simp only [arI, Bool.false_eq_true] at ho
      · exact ⟨.int (fitI (i + j)), by simp [Tr.val, ha.val, hb.val, op2, hm], rfl, fit_sm _, hd⟩
      · exact ⟨.int (fitI (i - j)), by simp [Tr.val, ha.val, hb.val, op2, hm], rfl, fit_sm _, hd⟩
      · exact ⟨.int (fitI (i * j)), by simp [Tr.val, ha.val, hb.val, op2, hm], rfl, fit_sm _, hd⟩
theorem fine_cm {env : Tx → Option Vl} {dep : Nat} {o : Bo} {a b : Tr} {x y : Vl} (ho : arC o = true) (ha : Fine env false dep a x) (hb : Fine env false dep b y) : ∃ v, Fine env true (dep + 1) (.bo o a b) v := by
  have hx := ha.kind; have hy := hb.kind
  cases x with
  | bl _ => cases hx
  | int i => cases y with
    | bl _ => cases hy
    | int j =>
      have hd : (Tr.bo o a b).dep ≤ dep + 1 := by have := ha.dep; have := hb.dep; simp only [Tr.dep]; omega
      cases o <;> simp only [arC, Bool.false_eq_true] at ho
      · exact ⟨.bl (decide (i < j)), by simp [Tr.val, ha.val, hb.val, op2], rfl, trivial, hd⟩
      · exact ⟨.bl (decide (i ≤ j)), by simp [Tr.val, ha.val, hb.val, op2], rfl, trivial, hd⟩
      · exact ⟨.bl (i == j), by simp [Tr.val, ha.val, hb.val, op2], rfl, trivial, hd⟩
theorem fine_bo {env : Tx → Option Vl} {dep : Nat} {o : Bo} {a b : Tr} {x y : Vl} (ho : arB o = true) (ha : Fine env true dep a x) (hb : Fine env true dep b y) : ∃ v, Fine env true (dep + 1) (.bo o a b) v := by
  have hx := ha.kind; have hy := hb.kind
  cases x with
  | int _ => cases hx
  | bl i => cases y with
    | int _ => cases hy
    | bl j =>
      have hd : (Tr.bo o a b).dep ≤ dep + 1 := by have := ha.dep; have := hb.dep; simp only [Tr.dep]; omega
      cases o <;> simp only [arB, Bool.false_eq_true] at ho
      · exact ⟨.bl (i && j), by simp [Tr.val, ha.val, hb.val, op2], rfl, trivial, hd⟩
      · exact ⟨.bl (i || j), by simp [Tr.val, ha.val, hb.val, op2], rfl, trivial, hd⟩
theorem fine_no {env : Tx → Option Vl} {dep : Nat} {a : Tr} {x : Vl} (ha : Fine env true dep a x) : ∃ v, Fine env true (dep + 1) (.no a) v := by
  have hx := ha.kind
  cases x with
  | int _ => cases hx
  | bl i => exact ⟨.bl (!i), by simp [Tr.val, ha.val], rfl, trivial, by have := ha.dep; simp only [Tr.dep]; omega⟩
end Pl
set_option Elab.async false
set_option linter.all false
set_option maxRecDepth 100000
set_option maxHeartbeats 2000000
namespace Pl
open G
abbrev eB : Ss := f__law_expr.body
section
variable {n ks j f : Nat} {c r0 r1 r2 r3 r4 r5 : Int} {M : Mem} {seen : List (Tx × Bool)} {kind : Bool} {dep : Nat} {env : Tx → Option Vl}
def eE (c : Int) (kind : Bool) (ks dep j f : Nat) (o6 : Option D) : Env := [some (.int c), some (.str (kd kind)), some (.ref ks), some (.int dep), some (.ref j), some (.ref f), o6, none, none]
theorem at_mod {α : Type} {xs : List α} {i : Int} (h : 0 < xs.length) : ∃ (k : Nat) (y : α), at_ xs (i % (xs.length : Int)) = some y ∧ xs[k]? = some y := by
  have h1 := Int.emod_nonneg i (b := (xs.length : Int)) (by omega)
  have h2 := Int.emod_lt_of_pos i (b := (xs.length : Int)) (by omega)
  have hk : (i % (xs.length : Int)).toNat < xs.length := by omega
  refine ⟨(i % (xs.length : Int)).toNat, xs[(i % (xs.length : Int)).toNat], ?_, List.getElem?_eq_getElem hk⟩
  unfold at_ place
  rw [if_pos h1, if_pos h2]
  exact List.getElem?_eq_getElem hk
theorem fit_mem {k : Nat} {y : D} (h : (fitD seen kind)[k]? = some y) : ∃ p ∈ seen, p.2 = kind ∧ y = .str p.1 := by
  have hm := List.mem_of_getElem? h
  unfold fitD at hm
  obtain ⟨p, hp, rfl⟩ := List.mem_map.mp hm
  obtain ⟨h1, h2⟩ := List.mem_filter.mp hp
  exact ⟨p, h1, by simpa using h2, rfl⟩
/-- a name that fits, or on -/
theorem e2 (hj : M[j]? = some (.lst [.int r0, .int r1, .int r2, .int r3, .int r4, .int r5])) (hf : M[f]? = some (.lst (fitD seen kind))) :
    (∃ p ∈ seen, p.2 = kind ∧ exec (Cn n) (sget eB 2) (eE c kind ks dep j f none) M = .rt (.str p.1) M) ∨ exec (Cn n) (sget eB 2) (eE c kind ks dep j f none) M = .nx (eE c kind ks dep j f none) M := by
  by_cases h0 : 0 < (fitD seen kind).length
  · by_cases h1 : bandI r0 1 = 1
    · left
      obtain ⟨k, y, h2, h3⟩ := at_mod (i := r3) h0
      obtain ⟨p, hp, hk, rfl⟩ := fit_mem h3
      refine ⟨p, hp, hk, ?_⟩
      have hpos : (0 : Int) < ((fitD seen kind).length : Int) := by omega
      simp [sget, eB, f__law_expr, eE, x_ite, x_ret, execs, Out.of, Out.test, evalE, evalEs, R.bind, truth, cmpR, cmpD, blt, bLen, bInt, hf, hj, h0, item, itemL, at_, place, G.bin, ints2, h1, eqD, dictOf, eqSeq, look, D.noref, D.depth, D.eqv, hpos]
      simp only [at_, place] at h2
      simp [h2]
    · right
      simp [sget, eB, f__law_expr, eE, x_ite, x_ret, execs, Out.of, Out.test, evalE, evalEs, R.bind, truth, cmpR, cmpD, blt, bLen, bInt, hf, hj, h0, item, itemL, at_, place, G.bin, ints2, h1, eqD, dictOf, eqSeq, look, D.noref, D.depth, D.eqv]
  · right
    have h0 : (fitD seen kind).length = 0 := by omega
    simp [sget, eB, f__law_expr, eE, x_ite, x_ret, execs, Out.of, Out.test, evalE, evalEs, R.bind, truth, cmpR, cmpD, blt, bLen, bInt, hf, hj, h0]
/-- what the deeper calls give -/
def Deep (n ks dep : Nat) (seen : List (Tx × Bool)) (env : Tx → Option Vl) : Prop := ∀ d : Nat, dep = d + 1 → ∀ (r : Int) (k : Bool) (M' : Mem), M'[ks]? = some (.lst (seenD seen)) →
  ∃ t v ν, run P true n "_law_expr" [.int r, .str (kd k), .ref ks, .int d] M' = .ok t.d (M' ++ ν) ∧ Fine env k d t v
theorem two (H : Deep n ks (dep + 1) seen env) (k : Bool) (ra rb : Int) (M1 : Mem) (hs : M1[ks]? = some (.lst (seenD seen))) : ∃ t1 v1 t2 v2 ν1 ν2, run P true n "_law_expr" [.int ra, .str (kd k), .ref ks, .int dep] M1 = .ok t1.d (M1 ++ ν1) ∧
    run P true n "_law_expr" [.int rb, .str (kd k), .ref ks, .int dep] (M1 ++ ν1) = .ok t2.d (M1 ++ ν1 ++ ν2) ∧ Fine env k dep t1 v1 ∧ Fine env k dep t2 v2 := by
  obtain ⟨t1, v1, ν1, e1, f1⟩ := H dep rfl ra k M1 hs
  obtain ⟨t2, v2, ν2, e2, f2⟩ := H dep rfl rb k (M1 ++ ν1) (pre_get hs)
  exact ⟨t1, v1, t2, v2, ν1, ν2, e1, e2, f1, f2⟩
theorem frz_str (x : Tx) (μ : Mem) : frz1 (.str x) μ = (.str x, μ) := rfl
theorem kdf : kd false = ['i', 'n', 't'] := rfl
theorem kdt : kd true = ['b', 'o', 'o', 'l'] := rfl
theorem e3 (hs : M[ks]? = some (.lst (seenD seen))) (hj : M[j]? = some (.lst [.int r0, .int r1, .int r2, .int r3, .int r4, .int r5])) (b0 : 0 ≤ r0) (b3 : 0 ≤ r3 ∧ r3 < 60) (b4 : 0 ≤ r4 ∧ r4 < 2000000001) (b5 : 0 ≤ r5 ∧ r5 < 3) (H : Deep n ks dep seen env) :
    ∃ t v ν, exec (Cn n) (sget eB 3) (eE c false ks dep j f none) M = .rt (Tr.d t) (M ++ ν) ∧ Fine env false dep t v := by
  by_cases hd : 0 < dep ∧ r0 > 3
  · obtain ⟨hd, h3⟩ := hd
    obtain ⟨d, rfl⟩ : ∃ d, dep = d + 1 := ⟨dep - 1, by omega⟩
    have hpos : (0 : Int) < (d : Int) + 1 := by omega
    obtain ⟨t1, v1, t2, v2, ν1, ν2, q1, q2, f1, f2⟩ := two H false r1 r2 (M ++ [.lst [.str ['+'], .str ['-'], .str ['*']]]) (pre_get hs)
    rw [kdf] at q1 q2
    simp only [List.append_assoc, List.cons_append, List.nil_append] at q1 q2
    have hj' : ∀ ν, (M ++ ν)[j]? = some (.lst [.int r0, .int r1, .int r2, .int r3, .int r4, .int r5]) := fun ν => pre_get hj
    have z1 := frz_tr t1
    have z2 := frz_tr t2
    have go : ∀ o : Bo, arI o = true → exec (Cn n) (sget eB 3) (eE c false ks (d + 1) j f none) M = .rt (.tup [.str o.tx, t1.d, t2.d]) (M ++ ([.lst [.str ['+'], .str ['-'], .str ['*']]] ++ ν1 ++ ν2)) →
        ∃ t v ν, exec (Cn n) (sget eB 3) (eE c false ks (d + 1) j f none) M = .rt (Tr.d t) (M ++ ν) ∧ Fine env false (d + 1) t v := fun o ho e => by
      obtain ⟨v, fv⟩ := fine_ar ho f1 f2
      exact ⟨.bo o t1 t2, v, _, e, fv⟩
    obtain rfl | rfl | rfl : r5 = 0 ∨ r5 = 1 ∨ r5 = 2 := by omega
    · refine go .add rfl ?_
      simp [sget, eB, f__law_expr, eE, x_ite, x_ret, x_asg, execs, Out.of, Out.test, evalE, evalEs, R.bind, truth, cmpR, cmpD, blt, bLen, bInt, hj, item, itemL, at_, place, G.bin, ints2, eqD, dictOf, eqSeq, look, D.noref, D.depth, D.eqv, asgT, frzIf, frz, frz_str, newL, line, kd, hpos, h3, hj', q1, q2, z1, z2, Bo.tx]
    · refine go .sub rfl ?_
      simp [sget, eB, f__law_expr, eE, x_ite, x_ret, x_asg, execs, Out.of, Out.test, evalE, evalEs, R.bind, truth, cmpR, cmpD, blt, bLen, bInt, hj, item, itemL, at_, place, G.bin, ints2, eqD, dictOf, eqSeq, look, D.noref, D.depth, D.eqv, asgT, frzIf, frz, frz_str, newL, line, kd, hpos, h3, hj', q1, q2, z1, z2, Bo.tx]
    · refine go .mul rfl ?_
      simp [sget, eB, f__law_expr, eE, x_ite, x_ret, x_asg, execs, Out.of, Out.test, evalE, evalEs, R.bind, truth, cmpR, cmpD, blt, bLen, bInt, hj, item, itemL, at_, place, G.bin, ints2, eqD, dictOf, eqSeq, look, D.noref, D.depth, D.eqv, asgT, frzIf, frz, frz_str, newL, line, kd, hpos, h3, hj', q1, q2, z1, z2, Bo.tx]
  · by_cases h0 : r0 = 0
    · subst h0
      refine ⟨.int (r4 - 1000000000), .int (r4 - 1000000000), [], ?_, rfl, rfl, by unfold Vl.sm; omega, Nat.zero_le _⟩
      by_cases hp : 0 < dep <;> simp [sget, eB, f__law_expr, eE, x_ite, x_ret, x_asg, execs, Out.of, Out.test, evalE, evalEs, R.bind, truth, cmpR, cmpD, blt, bLen, bInt, hj, item, itemL, at_, place, G.bin, ints2, eqD, dictOf, eqSeq, look, D.noref, D.depth, D.eqv, asgT, frzIf, frz, frz_str, newL, line, kd, Tr.d, hp]
    · have hd' : 0 < dep → ¬ 3 < r0 := fun h h3 => hd ⟨h, h3⟩
      have hr0 : (r0 == 0) = false := by simpa using h0
      refine ⟨.int (r3 - 20), .int (r3 - 20), [], ?_, rfl, rfl, by unfold Vl.sm; omega, Nat.zero_le _⟩
      by_cases hp : 0 < dep
      · have h3 := hd' hp
        simp [sget, eB, f__law_expr, eE, x_ite, x_ret, x_asg, execs, Out.of, Out.test, evalE, evalEs, R.bind, truth, cmpR, cmpD, blt, bLen, bInt, hj, item, itemL, at_, place, G.bin, ints2, eqD, dictOf, eqSeq, look, D.noref, D.depth, D.eqv, asgT, frzIf, frz, frz_str, newL, line, kd, Tr.d, hp, h3, hr0]
      · simp [sget, eB, f__law_expr, eE, x_ite, x_ret, x_asg, execs, Out.of, Out.test, evalE, evalEs, R.bind, truth, cmpR, cmpD, blt, bLen, bInt, hj, item, itemL, at_, place, G.bin, ints2, eqD, dictOf, eqSeq, look, D.noref, D.depth, D.eqv, asgT, frzIf, frz, frz_str, newL, line, kd, Tr.d, hp, hr0]
theorem e3t : exec (Cn n) (sget eB 3) (eE c true ks dep j f none) M = .nx (eE c true ks dep j f none) M := by
  simp [sget, eB, f__law_expr, eE, x_ite, execs, Out.test, evalE, R.bind, truth, cmpR, cmpD, eqD, dictOf, eqSeq, look, D.noref, D.depth, D.eqv, kd]
theorem e4 (hs : M[ks]? = some (.lst (seenD seen))) (hj : M[j]? = some (.lst [.int r0, .int r1, .int r2, .int r3, .int r4, .int r5])) (H : Deep n ks dep seen env) :
    (∃ t v ν, exec (Cn n) (sget eB 4) (eE c true ks dep j f none) M = .rt (Tr.d t) (M ++ ν) ∧ Fine env true dep t v) ∨ exec (Cn n) (sget eB 4) (eE c true ks dep j f none) M = .nx (eE c true ks dep j f none) M := by
  by_cases hd : 0 < dep ∧ r0 = 6
  · left
    obtain ⟨hd, h6⟩ := hd
    obtain ⟨d, rfl⟩ : ∃ d, dep = d + 1 := ⟨dep - 1, by omega⟩
    have hpos : (0 : Int) < (d : Int) + 1 := by omega
    obtain ⟨t1, v1, ν1, q1, f1⟩ := H d rfl r1 true M hs
    rw [kdt] at q1
    have z1 := frz_tr t1
    obtain ⟨v, fv⟩ := fine_no f1
    refine ⟨.no t1, v, ν1, ?_, fv⟩
    simp [sget, eB, f__law_expr, eE, x_ite, x_ret, x_asg, execs, Out.of, Out.test, evalE, evalEs, R.bind, truth, cmpR, cmpD, blt, bLen, bInt, hj, item, itemL, at_, place, G.bin, ints2, eqD, dictOf, eqSeq, look, D.noref, D.depth, D.eqv, asgT, frzIf, frz, frz_str, newL, line, kd, hpos, h6, q1, z1, Tr.d]
  · right
    by_cases hp : 0 < dep
    · have h6 : ¬ (r0 = 6) := fun h => hd ⟨hp, h⟩
      simp [sget, eB, f__law_expr, eE, x_ite, x_ret, x_asg, execs, Out.of, Out.test, evalE, evalEs, R.bind, truth, cmpR, cmpD, blt, bLen, bInt, hj, item, itemL, at_, place, G.bin, ints2, eqD, dictOf, eqSeq, look, D.noref, D.depth, D.eqv, asgT, frzIf, frz, frz_str, newL, line, kd, hp, h6]
    · simp [sget, eB, f__law_expr, eE, x_ite, x_ret, x_asg, execs, Out.of, Out.test, evalE, evalEs, R.bind, truth, cmpR, cmpD, blt, bLen, bInt, hj, item, itemL, at_, place, G.bin, ints2, eqD, dictOf, eqSeq, look, D.noref, D.depth, D.eqv, asgT, frzIf, frz, frz_str, newL, line, kd, hp]
theorem e5 (hs : M[ks]? = some (.lst (seenD seen))) (hj : M[j]? = some (.lst [.int r0, .int r1, .int r2, .int r3, .int r4, .int r5])) (b5 : 0 ≤ r5 ∧ r5 < 3) (H : Deep n ks dep seen env) :
    (∃ t v ν, exec (Cn n) (sget eB 5) (eE c true ks dep j f none) M = .rt (Tr.d t) (M ++ ν) ∧ Fine env true dep t v) ∨ exec (Cn n) (sget eB 5) (eE c true ks dep j f none) M = .nx (eE c true ks dep j f none) M := by
  by_cases hd : 0 < dep ∧ r0 = 4
  · left
    obtain ⟨hd, h6⟩ := hd
    obtain ⟨d, rfl⟩ : ∃ d, dep = d + 1 := ⟨dep - 1, by omega⟩
    have hpos : (0 : Int) < (d : Int) + 1 := by omega
    obtain ⟨t1, v1, t2, v2, ν1, ν2, q1, q2, f1, f2⟩ := two H true r1 r2 (M ++ [.lst [.str ['a', 'n', 'd'], .str ['o', 'r']]]) (pre_get hs)
    rw [kdt] at q1 q2
    simp only [List.append_assoc, List.cons_append, List.nil_append] at q1 q2
    have hj' : ∀ ν, (M ++ ν)[j]? = some (.lst [.int r0, .int r1, .int r2, .int r3, .int r4, .int r5]) := fun ν => pre_get hj
    have z1 := frz_tr t1
    have z2 := frz_tr t2
    have go : ∀ o : Bo, arB o = true → exec (Cn n) (sget eB 5) (eE c true ks (d + 1) j f none) M = .rt (.tup [.str o.tx, t1.d, t2.d]) (M ++ ([.lst [.str ['a', 'n', 'd'], .str ['o', 'r']]] ++ ν1 ++ ν2)) →
        ∃ t v ν, exec (Cn n) (sget eB 5) (eE c true ks (d + 1) j f none) M = .rt (Tr.d t) (M ++ ν) ∧ Fine env true (d + 1) t v := fun o ho e => by
      obtain ⟨v, fv⟩ := fine_bo ho f1 f2
      exact ⟨.bo o t1 t2, v, _, e, fv⟩
    obtain rfl | rfl | rfl : r5 = 0 ∨ r5 = 1 ∨ r5 = 2 := by omega
    · refine go .and rfl ?_
      simp [sget, eB, f__law_expr, eE, x_ite, x_ret, x_asg, execs, Out.of, Out.test, evalE, evalEs, R.bind, truth, cmpR, cmpD, blt, bLen, bInt, hj, item, itemL, at_, place, G.bin, ints2, eqD, dictOf, eqSeq, look, D.noref, D.depth, D.eqv, asgT, frzIf, frz, frz_str, newL, line, kd, hpos, h6, hj', q1, q2, z1, z2, Bo.tx, bandI]
    · refine go .or rfl ?_
      simp [sget, eB, f__law_expr, eE, x_ite, x_ret, x_asg, execs, Out.of, Out.test, evalE, evalEs, R.bind, truth, cmpR, cmpD, blt, bLen, bInt, hj, item, itemL, at_, place, G.bin, ints2, eqD, dictOf, eqSeq, look, D.noref, D.depth, D.eqv, asgT, frzIf, frz, frz_str, newL, line, kd, hpos, h6, hj', q1, q2, z1, z2, Bo.tx, bandI]
    · refine go .and rfl ?_
      simp [sget, eB, f__law_expr, eE, x_ite, x_ret, x_asg, execs, Out.of, Out.test, evalE, evalEs, R.bind, truth, cmpR, cmpD, blt, bLen, bInt, hj, item, itemL, at_, place, G.bin, ints2, eqD, dictOf, eqSeq, look, D.noref, D.depth, D.eqv, asgT, frzIf, frz, frz_str, newL, line, kd, hpos, h6, hj', q1, q2, z1, z2, Bo.tx, bandI]
  · right
    by_cases hp : 0 < dep
    · have h6 : ¬ (r0 = 4) := fun h => hd ⟨hp, h⟩
      simp [sget, eB, f__law_expr, eE, x_ite, x_ret, x_asg, execs, Out.of, Out.test, evalE, evalEs, R.bind, truth, cmpR, cmpD, blt, bLen, bInt, hj, item, itemL, at_, place, G.bin, ints2, eqD, dictOf, eqSeq, look, D.noref, D.depth, D.eqv, asgT, frzIf, frz, frz_str, newL, line, kd, hp, h6]
    · simp [sget, eB, f__law_expr, eE, x_ite, x_ret, x_asg, execs, Out.of, Out.test, evalE, evalEs, R.bind, truth, cmpR, cmpD, blt, bLen, bInt, hj, item, itemL, at_, place, G.bin, ints2, eqD, dictOf, eqSeq, look, D.noref, D.depth, D.eqv, asgT, frzIf, frz, frz_str, newL, line, kd, hp]
theorem e6 (hs : M[ks]? = some (.lst (seenD seen))) (hj : M[j]? = some (.lst [.int r0, .int r1, .int r2, .int r3, .int r4, .int r5])) (b5 : 0 ≤ r5 ∧ r5 < 3) (H : Deep n ks dep seen env) :
    (∃ t v ν, exec (Cn n) (sget eB 6) (eE c true ks dep j f none) M = .rt (Tr.d t) (M ++ ν) ∧ Fine env true dep t v) ∨ exec (Cn n) (sget eB 6) (eE c true ks dep j f none) M = .nx (eE c true ks dep j f none) M := by
  by_cases hd : 0 < dep ∧ r0 < 4
  · left
    obtain ⟨hd, h6⟩ := hd
    obtain ⟨d, rfl⟩ : ∃ d, dep = d + 1 := ⟨dep - 1, by omega⟩
    have hpos : (0 : Int) < (d : Int) + 1 := by omega
    obtain ⟨t1, v1, t2, v2, ν1, ν2, q1, q2, f1, f2⟩ := two H false r1 r2 (M ++ [.lst [.str ['<'], .str ['<', '='], .str ['=']]]) (pre_get hs)
    rw [kdf] at q1 q2
    simp only [List.append_assoc, List.cons_append, List.nil_append] at q1 q2
    have hj' : ∀ ν, (M ++ ν)[j]? = some (.lst [.int r0, .int r1, .int r2, .int r3, .int r4, .int r5]) := fun ν => pre_get hj
    have z1 := frz_tr t1
    have z2 := frz_tr t2
    have go : ∀ o : Bo, arC o = true → exec (Cn n) (sget eB 6) (eE c true ks (d + 1) j f none) M = .rt (.tup [.str o.tx, t1.d, t2.d]) (M ++ ([.lst [.str ['<'], .str ['<', '='], .str ['=']]] ++ ν1 ++ ν2)) →
        ∃ t v ν, exec (Cn n) (sget eB 6) (eE c true ks (d + 1) j f none) M = .rt (Tr.d t) (M ++ ν) ∧ Fine env true (d + 1) t v := fun o ho e => by
      obtain ⟨v, fv⟩ := fine_cm ho f1 f2
      exact ⟨.bo o t1 t2, v, _, e, fv⟩
    obtain rfl | rfl | rfl : r5 = 0 ∨ r5 = 1 ∨ r5 = 2 := by omega
    · refine go .lt rfl ?_
      simp [sget, eB, f__law_expr, eE, x_ite, x_ret, x_asg, execs, Out.of, Out.test, evalE, evalEs, R.bind, truth, cmpR, cmpD, blt, bLen, bInt, hj, item, itemL, at_, place, G.bin, ints2, eqD, dictOf, eqSeq, look, D.noref, D.depth, D.eqv, asgT, frzIf, frz, frz_str, newL, line, kd, hpos, h6, hj', q1, q2, z1, z2, Bo.tx, bandI]
    · refine go .le rfl ?_
      simp [sget, eB, f__law_expr, eE, x_ite, x_ret, x_asg, execs, Out.of, Out.test, evalE, evalEs, R.bind, truth, cmpR, cmpD, blt, bLen, bInt, hj, item, itemL, at_, place, G.bin, ints2, eqD, dictOf, eqSeq, look, D.noref, D.depth, D.eqv, asgT, frzIf, frz, frz_str, newL, line, kd, hpos, h6, hj', q1, q2, z1, z2, Bo.tx, bandI]
    · refine go .eq rfl ?_
      simp [sget, eB, f__law_expr, eE, x_ite, x_ret, x_asg, execs, Out.of, Out.test, evalE, evalEs, R.bind, truth, cmpR, cmpD, blt, bLen, bInt, hj, item, itemL, at_, place, G.bin, ints2, eqD, dictOf, eqSeq, look, D.noref, D.depth, D.eqv, asgT, frzIf, frz, frz_str, newL, line, kd, hpos, h6, hj', q1, q2, z1, z2, Bo.tx, bandI]
  · right
    by_cases hp : 0 < dep
    · have h6 : ¬ (r0 < 4) := fun h => hd ⟨hp, h⟩
      simp [sget, eB, f__law_expr, eE, x_ite, x_ret, x_asg, execs, Out.of, Out.test, evalE, evalEs, R.bind, truth, cmpR, cmpD, blt, bLen, bInt, hj, item, itemL, at_, place, G.bin, ints2, eqD, dictOf, eqSeq, look, D.noref, D.depth, D.eqv, asgT, frzIf, frz, frz_str, newL, line, kd, hp, h6]
    · simp [sget, eB, f__law_expr, eE, x_ite, x_ret, x_asg, execs, Out.of, Out.test, evalE, evalEs, R.bind, truth, cmpR, cmpD, blt, bLen, bInt, hj, item, itemL, at_, place, G.bin, ints2, eqD, dictOf, eqSeq, look, D.noref, D.depth, D.eqv, asgT, frzIf, frz, frz_str, newL, line, kd, hp]
theorem e7 (hj : M[j]? = some (.lst [.int r0, .int r1, .int r2, .int r3, .int r4, .int r5])) :
    ∃ t v ν, exec (Cn n) (sget eB 7) (eE c true ks dep j f none) M = .rt (Tr.d t) (M ++ ν) ∧ Fine env true dep t v := by
  refine ⟨.bl (bandI r3 1 == 1), .bl (bandI r3 1 == 1), [], ?_, rfl, rfl, trivial, Nat.zero_le _⟩
  simp [sget, eB, f__law_expr, eE, x_ite, x_ret, x_asg, execs, Out.of, Out.test, evalE, evalEs, R.bind, truth, cmpR, cmpD, blt, bLen, bInt, hj, item, itemL, at_, place, G.bin, ints2, eqD, dictOf, eqSeq, look, D.noref, D.depth, D.eqv, asgT, frzIf, frz, frz_str, newL, line, kd, Tr.d]
end
end Pl
set_option Elab.async false
set_option linter.all false
set_option maxRecDepth 100000
set_option maxHeartbeats 2000000
namespace Pl
open G
def eLs : List Int := [8, 1000000000, 1000000000, 60, 2000000001, 3]
theorem eLs_good : ∀ l ∈ eLs, good l := by
  intro l hl
  simp only [eLs, List.mem_cons, List.not_mem_nil, or_false] at hl
  rcases hl with rfl | rfl | rfl | rfl | rfl | rfl <;> exact ⟨by decide, by decide⟩
theorem eDraws (c : Int) : ∃ r0 r1 r2 r3 r4 r5 : Int, draws c eLs = [r0, r1, r2, r3, r4, r5] ∧ (0 ≤ r0 ∧ r0 < 8) ∧ (0 ≤ r3 ∧ r3 < 60) ∧ (0 ≤ r4 ∧ r4 < 2000000001) ∧ (0 ≤ r5 ∧ r5 < 3) := by
  have hl := draws_len c eLs
  match hd : draws c eLs, hl with
  | [r0, r1, r2, r3, r4, r5], _ =>
    have a := fun (i : Nat) (l : Int) (h : eLs[i]? = some l) => draws_at (c := c) eLs_good h
    obtain ⟨v0, e0, b0⟩ := a 0 8 rfl
    obtain ⟨v3, e3, b3⟩ := a 3 60 rfl
    obtain ⟨v4, e4, b4⟩ := a 4 2000000001 rfl
    obtain ⟨v5, e5, b5⟩ := a 5 3 rfl
    rw [hd] at e0 e3 e4 e5
    cases e0
    cases e3
    cases e4
    cases e5
    exact ⟨_, _, _, _, _, _, rfl, b0, b3, b4, b5⟩
theorem expr_body (n ks dep : Nat) (seen : List (Tx × Bool)) (env : Tx → Option Vl) (henv : ∀ p ∈ seen, ∃ v, env p.1 = some v ∧ v.isB = p.2 ∧ v.sm) (hsl : seen.length ≤ line) (H : Deep (n + 1) ks dep seen env) (c : Int) (kind : Bool) (M : Mem) (hs : M[ks]? = some (.lst (seenD seen))) :
    ∃ t v ν, run P true (n + 2) "_law_expr" [.int c, .str (kd kind), .ref ks, .int dep] M = .ok (Tr.d t) (M ++ ν) ∧ Fine env kind dep t v := by
  obtain ⟨r0, r1, r2, r3, r4, r5, hd, b0, b3, b4, b5⟩ := eDraws c
  have rd := run_draws n c eLs (.ref M.length) (M ++ [.lst (eLs.map D.int)]) (.inr ⟨_, rfl, by simp⟩) eLs_good (by decide)
  rw [hd] at rd
  let N1 : Mem := M ++ [.lst (eLs.map D.int)] ++ [.lst [.int r0, .int r1, .int r2, .int r3, .int r4, .int r5]]
  let N2 : Mem := N1 ++ [.lst (fitD seen kind)]
  have h0 : exec (Cn (n + 1)) (sget eB 0) [some (.int c), some (.str (kd kind)), some (.ref ks), some (.int dep), none, none, none, none, none] M = .nx [some (.int c), some (.str (kd kind)), some (.ref ks), some (.int dep), some (.ref (M.length + 1)), none, none, none, none] N1 := by
    simp only [List.map_cons, List.map_nil, List.length_append, List.length_cons, List.length_nil] at rd
    simp [sget, eB, f__law_expr, x_asg, Out.of, evalE, evalEs, R.bind, G.bin, ints2, frzIf, frz, frz1, newL, line, asgT, N1]
    simp only [eLs, List.map_cons, List.map_nil] at rd
    rw [rd]
    simp
    rfl
  have hs1 : N1[ks]? = some (.lst (seenD seen)) := pre_get (pre_get hs)
  have hlen : N1.length = M.length + 2 := by simp [N1]
  have h1 : exec (Cn (n + 1)) (sget eB 1) [some (.int c), some (.str (kd kind)), some (.ref ks), some (.int dep), some (.ref (M.length + 1)), none, none, none, none] N1 = .nx (eE c kind ks dep (M.length + 1) (M.length + 2) none) N2 := by
    show exec (Cn (n + 1)) (.asg (.name 5) (.lc (.name 8) (.seq (.var 2)) (.idx (.var 8) (.lit (.int 0))) (.cons (.cmp .eq (.idx (.var 8) (.lit (.int 1))) (.var 1)) .nil) [7, 8])) _ _ = _
    rw [x_asg, x_lc]
    have hw : walkSeq N1 (.ref ks) = some ⟨seenD seen, fun μ => decide (getL μ (.ref ks) = some (seenD seen))⟩ := by simp only [walkSeq, hs1]
    simp only [walkI, evalE, R.bind, List.getElem?_cons_succ, List.getElem?_cons_zero, hw, optW]
    have hk : decide (getL N1 (.ref ks) = some (seenD seen)) = true := by simp only [getL, hs1, decide_true]
    have fl := fit_loop (Cn (n + 1)) kind (some (.int c)) (some (.ref ks)) (some (.int dep)) (some (.ref (M.length + 1))) none none (fun μ => decide (getL μ (.ref ks) = some (seenD seen))) N1 hk seen [] (by simpa using hsl)
    have hwp : wipeE [some (.int c), some (.str (kd kind)), some (.ref ks), some (.int dep), some (.ref (M.length + 1)), none, none, none, none] [7, 8] = [some (.int c), some (.str (kd kind)), some (.ref ks), some (.int dep), some (.ref (M.length + 1)), none, none, none, none] := rfl
    rw [hwp]
    show Out.of ((lcL _ _ true _ _ _).calm.bind newL) _ _ = _
    rw [fl]
    simp only [R.calm, R.bind, newL, Out.of, asgT, hlen, List.nil_append]
    rfl
  have hs2 : N2[ks]? = some (.lst (seenD seen)) := pre_get hs1
  have hj2 : N2[M.length + 1]? = some (.lst [.int r0, .int r1, .int r2, .int r3, .int r4, .int r5]) := by simp [N2, N1]
  have hf2 : N2[M.length + 2]? = some (.lst (fitD seen kind)) := by
    rw [← hlen]
    simp [N2]
  have hb : f__law_expr.body = .cons (sget eB 0) (.cons (sget eB 1) (.cons (sget eB 2) (.cons (sget eB 3) (.cons (sget eB 4) (.cons (sget eB 5) (.cons (sget eB 6) (.cons (sget eB 7) .nil))))))) := rfl
  have fin : ∀ {t : Tr} {v : Vl} {ν : Mem}, execs (Cn (n + 1)) (.cons (sget eB 2) (.cons (sget eB 3) (.cons (sget eB 4) (.cons (sget eB 5) (.cons (sget eB 6) (.cons (sget eB 7) .nil)))))) (eE c kind ks dep (M.length + 1) (M.length + 2) none) N2 = .rt t.d (N2 ++ ν) → Fine env kind dep t v →
      ∃ t v ν, run P true (n + 2) "_law_expr" [.int c, .str (kd kind), .ref ks, .int dep] M = .ok (Tr.d t) (M ++ ν) ∧ Fine env kind dep t v := fun {t v ν} e fv => by
    refine ⟨t, v, [.lst (eLs.map D.int)] ++ ([.lst [.int r0, .int r1, .int r2, .int r3, .int r4, .int r5]] ++ ([.lst (fitD seen kind)] ++ ν)), ?_, fv⟩
    rw [run_of (F := f__law_expr) rfl]
    refine runFn_rt rfl rfl ?_
    show execs (Cn (n + 1)) f__law_expr.body [some (.int c), some (.str (kd kind)), some (.ref ks), some (.int dep), none, none, none, none, none] M = _
    rw [hb, execs_nx h0, execs_nx h1, e]
    simp [N2, N1]
  rcases e2 (n := n + 1) (c := c) (ks := ks) (dep := dep) hj2 hf2 with ⟨p, hp, hk, e⟩ | e
  · obtain ⟨v, q1, q2, q3⟩ := henv p hp
    refine fin (t := .nm p.1) (v := v) (ν := []) ?_ ⟨q1, q2.trans hk, q3, Nat.zero_le _⟩
    rw [List.append_nil]
    exact execs_rt e
  · cases kind with
    | false =>
      obtain ⟨t, v, ν, q, fv⟩ := e3 (n := n + 1) (c := c) (f := M.length + 2) hs2 hj2 b0.1 b3 b4 b5 H
      refine fin (t := t) (v := v) (ν := ν) ?_ fv
      rw [execs_nx e]
      exact execs_rt q
    | true =>
      rcases e4 (n := n + 1) (c := c) (f := M.length + 2) hs2 hj2 H with ⟨t, v, ν, q, fv⟩ | x4
      · refine fin (t := t) (v := v) (ν := ν) ?_ fv
        rw [execs_nx e, execs_nx e3t]
        exact execs_rt q
      · rcases e5 (n := n + 1) (c := c) (f := M.length + 2) hs2 hj2 b5 H with ⟨t, v, ν, q, fv⟩ | x5
        · refine fin (t := t) (v := v) (ν := ν) ?_ fv
          rw [execs_nx e, execs_nx e3t, execs_nx x4]
          exact execs_rt q
        · rcases e6 (n := n + 1) (c := c) (f := M.length + 2) hs2 hj2 b5 H with ⟨t, v, ν, q, fv⟩ | x6
          · refine fin (t := t) (v := v) (ν := ν) ?_ fv
            rw [execs_nx e, execs_nx e3t, execs_nx x4, execs_nx x5]
            exact execs_rt q
          · obtain ⟨t, v, ν, q, fv⟩ := e7 (n := n + 1) (c := c) (ks := ks) (dep := dep) (f := M.length + 2) (env := env) hj2
            refine fin (t := t) (v := v) (ν := ν) ?_ fv
            rw [execs_nx e, execs_nx e3t, execs_nx x4, execs_nx x5, execs_nx x6]
            exact execs_rt q
theorem run_expr (ks : Nat) (seen : List (Tx × Bool)) (env : Tx → Option Vl) (henv : ∀ p ∈ seen, ∃ v, env p.1 = some v ∧ v.isB = p.2 ∧ v.sm) (hsl : seen.length ≤ line) : ∀ (dep n : Nat), dep + 3 ≤ n → ∀ (c : Int) (kind : Bool) (M : Mem), M[ks]? = some (.lst (seenD seen)) →
    ∃ t v ν, run P true n "_law_expr" [.int c, .str (kd kind), .ref ks, .int dep] M = .ok (Tr.d t) (M ++ ν) ∧ Fine env kind dep t v := by
  intro dep
  induction dep with
  | zero =>
    intro n hn c kind M hs
    obtain ⟨m, rfl⟩ : ∃ m, n = m + 2 := ⟨n - 2, by omega⟩
    exact expr_body m ks 0 seen env henv hsl (fun d hd => by omega) c kind M hs
  | succ d ih =>
    intro n hn c kind M hs
    obtain ⟨m, rfl⟩ : ∃ m, n = m + 2 := ⟨n - 2, by omega⟩
    exact expr_body m ks (d + 1) seen env henv hsl (fun d' hd r k M' hs' => by
      have e : d' = d := by omega
      subst e
      exact ih (m + 1) (by omega) r k M' hs') c kind M hs
end Pl
set_option Elab.async false
set_option linter.all false
set_option maxRecDepth 100000
set_option maxHeartbeats 2000000
namespace Pl
open G
/-- what stood still stands -/
def Keeps (μ μ' : Mem) : Prop := ∀ (i : Nat) (c : Cell), μ[i]? = some c → μ'[i]? = some c
theorem Keeps.refl (μ : Mem) : Keeps μ μ := fun _ _ h => h
theorem Keeps.trans {a b c : Mem} (x : Keeps a b) (y : Keeps b c) : Keeps a c := fun i d h => y i d (x i d h)
theorem Keeps.app (μ ν : Mem) : Keeps μ (μ ++ ν) := fun _ _ h => pre_get h
theorem Keeps.len {a b : Mem} (x : Keeps a b) : a.length ≤ b.length := by
  rcases Nat.lt_or_ge b.length a.length with h | h
  · have e := x b.length _ (List.getElem?_eq_getElem h)
    rw [List.getElem?_eq_none (Nat.le_refl _)] at e
    cases e
  · exact h
/-- a cell behind it is written -/
theorem Keeps.set {a b : Mem} (x : Keeps a b) {k : Nat} (h : a.length ≤ k) (c : Cell) : Keeps a (b.set k c) := fun i d e => by
  have hi := (List.getElem?_eq_some_iff.mp e).1
  rw [List.getElem?_set_ne (by omega)]
  exact x i d e
def resW : List Tx := [['i', 'n', 't'], ['b', 'o', 'o', 'l'], ['c', 'h', 'a', 'n', 'n', 'e', 'l'], ['t', 'a', 's', 'k'], ['n', 'o', 'n', 'e'], ['t', 'r', 'u', 'e'], ['f', 'a', 'l', 's', 'e'], ['n', 'o', 't'], ['a', 'n', 'd'], ['o', 'r'], ['f', 'u', 'n', 'c'], ['l', 'e', 't'], ['s', 'e', 't'], ['e', 'm', 'i', 't'], ['i', 'f']] ++
  [['e', 'l', 's', 'e'], ['w', 'h', 'i', 'l', 'e'], ['r', 'e', 't', 'u', 'r', 'n'], ['t', 'h', 'r', 'o', 'w'], ['t', 'r', 'y'], ['c', 'a', 't', 'c', 'h'], ['f', 'i', 'n', 'a', 'l', 'l', 'y'], ['s', 'c', 'o', 'p', 'e'], ['w', 'a', 't', 'c', 'h'], ['s', 'h', 'i', 'e', 'l', 'd'], ['u', 's', 'i', 'n', 'g'], ['s', 'p', 'a', 'w', 'n']] ++
  [['a', 'w', 'a', 'i', 't'], ['c', 'a', 'n', 'c', 'e', 'l'], ['o', 'p', 'e', 'n'], ['s', 'e', 'n', 'd'], ['r', 'e', 'c', 'e', 'i', 'v', 'e'], ['c', 'l', 'o', 's', 'e'], ['s', 'l', 'e', 'e', 'p'], ['y', 'i', 'e', 'l', 'd'], ['n', 'o', 'w'], ['c', 'a', 'l', 'l'], ['s', 'e', 'l', 'e', 'c', 't'], ['a', 'f', 't', 'e', 'r']] ++
  [['d', 'e', 'f', 'a', 'u', 'l', 't'], ['e', 'n', 'd']]
theorem run_reserved (n : Nat) (M : Mem) : ∃ ν, run P true (n + 1) "_law_reserved" [] M = .ok (.ref (M.length + 6)) (M ++ ν) ∧ (M ++ ν)[M.length + 6]? = some (.lst (resW.map D.str)) := by
  let W1 : List D := (resW.take 15).map D.str
  let W2 : List D := ((resW.drop 15).take 12).map D.str
  let W3 : List D := ((resW.drop 27).take 12).map D.str
  let W4 : List D := (resW.drop 39).map D.str
  refine ⟨[.lst W1, .lst W2, .lst (W1 ++ W2), .lst W3, .lst (W1 ++ W2 ++ W3), .lst W4, .lst (W1 ++ W2 ++ W3 ++ W4)], ?_, ?_⟩
  · rw [run_of (F := f__law_reserved) rfl]
    refine runFn_rt rfl rfl ?_
    simp [f__law_reserved, execs, x_asg, x_ret, Out.of, evalE, evalEs, R.bind, frzIf, frz, frz_str, newL, line, asgT, G.bin, addD, addL, getL, W1, W2, W3, W4, resW]
  · simp [W1, W2, W3, W4, resW]
end Pl
set_option Elab.async false
set_option linter.all false
set_option maxRecDepth 100000
set_option maxHeartbeats 2000000
namespace Pl
open G
def letters : Tx := ['a', 'b', 'c', 'd', 'e', 'f', 'g', 'h', 'i', 'j', 'k', 'l', 'm', 'n', 'o', 'p', 'q', 'r', 's', 't', 'u', 'v', 'w', 'x', 'y', 'z']
def signs : Tx := letters ++ ['0', '1', '2', '3', '4', '5', '6', '7', '8', '9']
abbrev nB : Ss := f__law_names.body
abbrev oB : Ss := sfor (sget nB 4)
abbrev iB : Ss := sfor (sget oB 4)
/-! ### the search of a free name -/
def cand (k j : Nat) : Tx := letters[j % 26]?.toList ++ textI k ++ (['x', 'x'].take (j / 26))
def nmStep (ns : List Tx) (k : Nat) (x : Tx) (j : Nat) : Tx := if x ∈ ns ∨ x ∈ resW then cand k j else x
theorem str_any (x : Tx) : ∀ ns : List Tx, ((ns.map D.str).any fun d => d.eqv (.str x)) = decide (x ∈ ns)
  | [] => rfl
  | y :: ns => by
    rw [List.map_cons, List.any_cons, str_any x ns]
    simp only [D.eqv, List.mem_cons]
    by_cases h : x = y
    · subst h; simp
    · have h2 : (y == x) = false := by simpa using fun e => h e.symm
      rw [h2]
      simp [h]
theorem str_flat : ∀ ns : List Tx, (ns.map D.str).all flat = true
  | [] => rfl
  | y :: ns => by rw [List.map_cons, List.all_cons, str_flat ns]; rfl
theorem in_strs {M : Mem} {k : Nat} {ns : List Tx} (h : M[k]? = some (.lst (ns.map D.str))) (x : Tx) : inD M (.str x) (.ref k) = some (decide (x ∈ ns)) := by
  simp only [inD, h, flat, str_flat, Bool.and_self, if_true, str_any]
def nE (c count : Int) (pr pn k : Nat) (o7 o8 o9 : Option D) (x : Tx) (o11 : Option D) : Env := [some (.int c), some (.int count), some (.ref pr), some (.str letters), some (.str signs), some (.ref pn), some (.int k), o7, o8, o9, some (.str x), o11, none]
theorem fits_small {k : Nat} (h : k < 100) : fits (k : Int) = true := by
  unfold fits
  refine decide_eq_true ?_
  exact Nat.lt_of_lt_of_le h (Nat.le_trans (show 100 ≤ 2 ^ 7 by decide) (Nat.pow_le_pow_right (by decide) (by decide)))
theorem let_at (j : Nat) : ∃ ch, at_ letters ((j : Int) % 26) = some ch ∧ letters[j % 26]?.toList = [ch] := by
  have h : j % 26 < 26 := Nat.mod_lt _ (by decide)
  have e : ((j : Int) % 26) = ((j % 26 : Nat) : Int) := by omega
  have hl : letters.length = 26 := rfl
  have hk : j % 26 < letters.length := by rw [hl]; exact h
  refine ⟨letters[j % 26], ?_, by rw [List.getElem?_eq_getElem hk]; rfl⟩
  unfold at_ place
  rw [e, if_pos (by omega), if_pos (by omega), Option.bind_some, Int.toNat_natCast]
  exact List.getElem?_eq_getElem hk
theorem cut_x (j : Nat) : cut ['x', 'x'] none (some ((j : Int) / 26)) = ['x', 'x'].take (j / 26) := by
  show ((['x', 'x'].take (if ((j : Int) / 26) < 0 then (((j : Int) / 26) + 2).toNat else min ((j : Int) / 26).toNat 2)).drop 0) = _
  have e : ((j : Int) / 26).toNat = j / 26 := by omega
  rw [if_neg (by omega), e, List.drop_zero]
  match j / 26 with
  | 0 => rfl
  | 1 => rfl
  | m + 2 => simp
theorem nm_turn (n : Nat) (c count : Int) (pr pn k : Nat) (o7 o8 o9 o11 : Option D) (x : Tx) (ns : List Tx) (M : Mem) (j : Nat) (hk : k < 100) (hr : M[pr]? = some (.lst (resW.map D.str))) (hn : M[pn]? = some (.lst (ns.map D.str))) (hkl : (textI k).length ≤ 100) :
    stepF (Cn n) (.name 9) iB (.int j) (nE c count pr pn k o7 o8 o9 x o11) M = .nx (nE c count pr pn k o7 o8 (some (.int j)) (nmStep ns k x j) o11) M := by
  obtain ⟨ch, h1, h2⟩ := let_at j
  have i1 := in_strs hn x
  have i2 := in_strs hr x
  have hf := fits_small hk
  have hc := cut_x j
  by_cases hx : x ∈ ns ∨ x ∈ resW
  · have hor : (decide (x ∈ ns) || decide (x ∈ resW)) = true := by simpa using hx
    have e : nmStep ns k x j = [ch] ++ textI k ++ ['x', 'x'].take (j / 26) := by unfold nmStep cand; rw [if_pos hx, h2]
    rw [e]
    have hL1 : 1 + (textI k).length ≤ line := Nat.le_trans (show 1 + (textI k).length ≤ 101 by omega) (by decide)
    have hL2 : (textI k).length + 1 + min (j / 26) 2 ≤ line := Nat.le_trans (show _ ≤ 103 by omega) (by decide)
    by_cases hx1 : x ∈ ns
    · simp [stepF, iB, oB, nB, f__law_names, sget, sfor, nE, bindT, execs, x_asg, x_ite, Out.of, Out.test, evalE, evalEs, evalO, R.bind, truth, cmpR, cmpD, i1, i2, hx1, G.bin, ints2, blt, bInt, bStr, hf, item, h1, addD, asgT, slice, optInt, hc, hL1, hL2]
    · have hx2 : x ∈ resW := hx.resolve_left hx1
      simp [stepF, iB, oB, nB, f__law_names, sget, sfor, nE, bindT, execs, x_asg, x_ite, Out.of, Out.test, evalE, evalEs, evalO, R.bind, truth, cmpR, cmpD, i1, i2, hx1, G.bin, ints2, blt, bInt, bStr, hf, item, h1, addD, asgT, slice, optInt, hc, hL1, hL2, hx2]
  · have e : nmStep ns k x j = x := by unfold nmStep; rw [if_neg hx]
    rw [e]
    have h1 : x ∉ ns := fun h => hx (.inl h)
    have h2 : x ∉ resW := fun h => hx (.inr h)
    simp [stepF, iB, oB, nB, f__law_names, sget, sfor, nE, bindT, execs, x_asg, x_ite, Out.of, Out.test, evalE, evalEs, R.bind, truth, cmpR, cmpD, i1, i2, h1, h2]
theorem nm_loop (n : Nat) (c count : Int) (pr pn k : Nat) (o7 o8 o11 : Option D) (ns : List Tx) (M : Mem) (hk : k < 100) (hr : M[pr]? = some (.lst (resW.map D.str))) (hn : M[pn]? = some (.lst (ns.map D.str))) (hkl : (textI k).length ≤ 100) : ∀ (js : List Nat) (x : Tx) (o9 : Option D),
    ∃ o9', forL (fun _ => true) (stepF (Cn n) (.name 9) iB) (js.map fun j : Nat => D.int (j : Int)) (nE c count pr pn k o7 o8 o9 x o11) M = .nx (nE c count pr pn k o7 o8 o9' (js.foldl (nmStep ns k) x) o11) M
  | [], x, o9 => ⟨o9, rfl⟩
  | j :: js, x, o9 => by
    obtain ⟨o, e⟩ := nm_loop n c count pr pn k o7 o8 o11 ns M hk hr hn hkl js (nmStep ns k x j) (some (.int j))
    refine ⟨o, ?_⟩
    rw [List.map_cons, forL_nx rfl (nm_turn n c count pr pn k o7 o8 o9 o11 x ns M j hk hr hn hkl), e]
    rfl
/-! ### it is free -/
theorem nm_stays {ns : List Tx} {k : Nat} {x : Tx} (h : ¬ (x ∈ ns ∨ x ∈ resW)) : ∀ js : List Nat, js.foldl (nmStep ns k) x = x
  | [] => rfl
  | j :: js => by
    rw [List.foldl_cons]
    have e : nmStep ns k x j = x := if_neg h
    rw [e]
    exact nm_stays h js
/-- free at the end, or every candidate but the last is taken -/
theorem nm_free {ns : List Tx} {k : Nat} : ∀ (js : List Nat) (x : Tx), js ≠ [] → (js.foldl (nmStep ns k) x ∉ ns) ∨ ∀ j ∈ js.dropLast, cand k j ∈ ns ∨ cand k j ∈ resW
  | [], _, h => (h rfl).elim
  | [j], x, _ => .inr fun i hi => by simp at hi
  | j :: i :: js, x, _ => by
    rw [List.foldl_cons]
    by_cases hx : nmStep ns k x j ∈ ns ∨ nmStep ns k x j ∈ resW
    · rcases nm_free (i :: js) (nmStep ns k x j) (by simp) with h | h
      · exact .inl h
      · right
        intro a ha
        rw [List.dropLast_cons_of_ne_nil (by simp)] at ha
        rcases List.mem_cons.mp ha with rfl | ha
        · have hx0 : x ∈ ns ∨ x ∈ resW := by
            by_cases h0 : x ∈ ns ∨ x ∈ resW
            · exact h0
            · have e : nmStep ns k x a = x := if_neg h0
              rw [e] at hx
              exact hx
          have e : nmStep ns k x a = cand k a := if_pos hx0
          rw [e] at hx
          exact hx
        · exact h a ha
    · left
      rw [nm_stays hx]
      exact fun h => hx (.inl h)
theorem pigeon : ∀ {a b : List Tx}, a.Nodup → (∀ x ∈ a, x ∈ b) → a.length ≤ b.length
  | [], _, _, _ => Nat.zero_le _
  | x :: a, b, hn, h => by
    have hx := h x List.mem_cons_self
    have ih := pigeon (a := a) (b := b.erase x) (List.nodup_cons.mp hn).2 fun y hy => by
      have ne : y ≠ x := fun e => (List.nodup_cons.mp hn).1 (e ▸ hy)
      exact (List.mem_erase_of_ne ne).mpr (h y (List.mem_cons_of_mem _ hy))
    rw [List.length_erase_of_mem hx] at ih
    have := List.length_pos_of_mem hx
    simp only [List.length_cons]
    omega
end Pl
set_option Elab.async false
set_option linter.all false
set_option maxRecDepth 100000
set_option maxHeartbeats 2000000
namespace Pl
open G
theorem cand_fine : ∀ k, k < 8 → ((List.range 9).map (cand k)).Nodup ∧ ∀ j, j < 9 → cand k j ∉ resW := by decide +kernel
theorem textI_short : ∀ k : Nat, k < 8 → (textI (k : Int)).length ≤ 100 := by decide +kernel
def freeNm (ns : List Tx) (k : Nat) (x : Tx) : Tx := (List.range 78).foldl (nmStep ns k) x
theorem freeNm_new {ns : List Tx} {k : Nat} {x : Tx} (hk : k < 8) (hn : ns.length ≤ 8) : freeNm ns k x ∉ ns := by
  rcases nm_free (ns := ns) (k := k) (List.range 78) x (by decide) with h | h
  · exact h
  · exfalso
    obtain ⟨h1, h2⟩ := cand_fine k hk
    have hm : ∀ y ∈ (List.range 9).map (cand k), y ∈ ns := fun y hy => by
      obtain ⟨j, hj, rfl⟩ := List.mem_map.mp hy
      have hj : j < 9 := List.mem_range.mp hj
      have hd : j ∈ (List.range 78).dropLast := by
        rw [show (List.range 78).dropLast = List.range 77 from by decide]
        exact List.mem_range.mpr (by omega)
      exact (h j hd).resolve_right (h2 j hj)
    have := pigeon h1 hm
    rw [List.length_map, List.length_range] at this
    omega
theorem item_at {M : Mem} {p : Nat} {ds : List D} {i : Int} {d : D} (h : M[p]? = some (.lst ds)) (ha : at_ ds i = some d) : item (.ref p) (.int i) M = .ok d M := by
  simp only [item, h, itemL, ha]
def ls13 : List Int := [8, 26, 36, 36, 36, 36, 36, 36, 36, 36, 36, 36, 36]
theorem ls13_good : ∀ l ∈ ls13, good l := by
  intro l hl
  simp only [ls13, List.mem_cons, List.not_mem_nil, or_false] at hl
  rcases hl with rfl | rfl | rfl | rfl | rfl | rfl | rfl | rfl | rfl | rfl | rfl | rfl | rfl <;> exact ⟨by decide, by decide⟩
theorem dl_at (c : Int) (i : Nat) (l : Int) (h : ls13[i]? = some l) : ∃ v, at_ ((draws c ls13).map D.int) (i : Int) = some (.int v) ∧ 0 ≤ v ∧ v < l := by
  obtain ⟨v, h1, h2⟩ := draws_at (c := c) ls13_good h
  refine ⟨v, ?_, h2⟩
  have hi := (List.getElem?_eq_some_iff.mp h1).1
  unfold at_ place
  rw [List.length_map, if_pos (by omega), if_pos (by omega), Option.bind_some, Int.toNat_natCast, List.getElem?_map, h1]
  rfl
def oE (c count : Int) (pr pn k : Nat) (o7 o8 o9 o10 o11 : Option D) : Env := [some (.int c), some (.int count), some (.ref pr), some (.str letters), some (.str signs), some (.ref pn), some (.int k), o7, o8, o9, o10, o11, none]
section
variable {n pr pn k pd : Nat} {c count : Int} {o7 o8 o9 o10 o11 : Option D} {M : Mem}
theorem o0 (hk : k < 8) : exec (Cn (n + 1)) (sget oB 0) (oE c count pr pn k o7 o8 o9 o10 o11) M =
    .nx (oE c count pr pn k (some (.ref (M.length + 4))) o8 o9 o10 o11) (M ++ [.lst [.int 8, .int 26]] ++ [.lst [.int 36]] ++ [.lst (List.replicate 11 (.int 36))] ++ [.lst (ls13.map D.int)] ++ [.lst ((draws (c / 7 + 31 * k) ls13).map D.int)]) := by
  have rd := run_draws n (c / 7 + 31 * k) ls13 (.ref (M.length + 3)) (M ++ [.lst [.int 8, .int 26]] ++ [.lst [.int 36]] ++ [.lst (List.replicate 11 (.int 36))] ++ [.lst (ls13.map D.int)]) (.inr ⟨_, rfl, by simp⟩) ls13_good (by decide)
  have hlen : (M ++ [Cell.lst [D.int 8, D.int 26]] ++ [Cell.lst [D.int 36]] ++ [Cell.lst (List.replicate 11 (D.int 36))] ++ [Cell.lst (ls13.map D.int)]).length = M.length + 4 := by simp
  rw [hlen] at rd
  have hm : mulOk 31 (k : Int) = true := rfl
  simp [sget, oB, nB, sfor, f__law_names, oE, x_asg, Out.of, evalE, evalEs, R.bind, G.bin, addD, addL, mulD, mulL, ints2, blt, bInt, frzIf, frz, frz1, newL, line, getL, asgT, hm]
  simp [ls13] at rd
  rw [rd]
  simp [ls13]
end
end Pl
set_option Elab.async false
set_option linter.all false
set_option maxRecDepth 100000
set_option maxHeartbeats 2000000
namespace Pl
open G
def sizesD : List D := [.int 1, .int 1, .int 2, .int 3, .int 5, .int 7, .int 6, .int 12]
theorem sizes_at {v : Int} (h0 : 0 ≤ v) (h1 : v < 8) : ∃ s : Int, at_ sizesD v = some (.int s) ∧ 1 ≤ s ∧ s ≤ 12 := by
  obtain rfl | rfl | rfl | rfl | rfl | rfl | rfl | rfl : v = 0 ∨ v = 1 ∨ v = 2 ∨ v = 3 ∨ v = 4 ∨ v = 5 ∨ v = 6 ∨ v = 7 := by omega
  all_goals exact ⟨_, rfl, by decide, by decide⟩
theorem at_tx {x : Tx} {v : Int} (h0 : 0 ≤ v) (h1 : v < x.length) : ∃ ch, at_ x v = some ch := by
  unfold at_ place
  rw [if_pos h0, if_pos h1, Option.bind_some]
  have : v.toNat < x.length := by omega
  exact ⟨_, List.getElem?_eq_getElem this⟩
section
variable {n pr pn k pd : Nat} {c count : Int} {o7 o8 o9 o10 o11 : Option D} {M : Mem} {dl : List D}
/-- the draws that a name wants -/
structure Dl (dl : List D) : Prop where
  d0 : ∃ v, at_ dl 0 = some (.int v) ∧ 0 ≤ v ∧ v < 8
  d1 : ∃ v, at_ dl 1 = some (.int v) ∧ 0 ≤ v ∧ v < 26
  ds : ∀ i : Nat, i < 11 → ∃ v, at_ dl (2 + (i : Int)) = some (.int v) ∧ 0 ≤ v ∧ v < 36
theorem dl_ok (c : Int) : Dl ((draws c ls13).map D.int) := by
  refine ⟨dl_at c 0 8 rfl, dl_at c 1 26 rfl, fun i hi => ?_⟩
  have h : ls13[i + 2]? = some 36 := by
    have : ∀ i, i < 11 → ls13[i + 2]? = some 36 := by decide
    exact this i hi
  have e : (2 : Int) + (i : Int) = ((i + 2 : Nat) : Int) := by omega
  rw [e]
  exact dl_at c (i + 2) 36 h
theorem o1 (hd : M[pd]? = some (.lst dl)) (D0 : Dl dl) : ∃ s : Int, 1 ≤ s ∧ s ≤ 12 ∧ exec (Cn n) (sget oB 1) (oE c count pr pn k (some (.ref pd)) o8 o9 o10 o11) M = .nx (oE c count pr pn k (some (.ref pd)) (some (.int s)) o9 o10 o11) (M ++ [.lst sizesD]) := by
  obtain ⟨v, h1, h2, h3⟩ := D0.d0
  obtain ⟨s, h4, h5, h6⟩ := sizes_at h2 h3
  refine ⟨s, h5, h6, ?_⟩
  have i1 := item_at (pre_get (ν := [.lst sizesD]) hd) h1
  have i2 : item (.ref M.length) (.int v) (M ++ [.lst sizesD]) = .ok (.int s) (M ++ [.lst sizesD]) := item_at (by simp) h4
  simp only [sizesD] at i1 i2
  simp [sget, oB, nB, sfor, f__law_names, oE, x_asg, Out.of, evalE, evalEs, R.bind, frzIf, frz, frz1, newL, line, asgT, i1, i2, sizesD]
theorem sign_loop (hd : M[pd]? = some (.lst dl)) (D0 : Dl dl) (a0 a1 a2 a3 a5 a6 a8 a10 a11 : Option D) : ∀ (js : List Nat) (acc : List Tx), (∀ j ∈ js, j < 11) → acc.length + js.length ≤ 100 → (∀ t ∈ acc, t.length = 1) →
    ∃ ts : List Tx, lcL (fun _ => true) (elF (Cn n) (.name 9) .nil (.idx (.var 4) (.idx (.var 7) (.bin .add (.lit (.int 2)) (.var 9)))) [a0, a1, a2, a3, some (.str signs), a5, a6, some (.ref pd), a8, none, a10, a11, none]) true (js.map fun j : Nat => D.int (0 + (j : Int))) (acc.map D.str) M = .ok (ts.map D.str) M ∧ ts.length ≤ 100 ∧ ∀ t ∈ ts, t.length = 1
  | [], acc, _, hl, ha => ⟨acc, by simp [lcL], by simpa using hl, ha⟩
  | j :: js, acc, hj, hl, ha => by
    obtain ⟨v, h1, h2, h3⟩ := D0.ds j (hj j List.mem_cons_self)
    obtain ⟨ch, h4⟩ := at_tx (x := signs) h2 h3
    have i1 := item_at hd h1
    have he : elF (Cn n) (.name 9) .nil (.idx (.var 4) (.idx (.var 7) (.bin .add (.lit (.int 2)) (.var 9)))) [a0, a1, a2, a3, some (.str signs), a5, a6, some (.ref pd), a8, none, a10, a11, none] (.int (0 + (j : Int))) M = .ok (some (.str [ch])) M := by
      have e : (0 : Int) + (j : Int) = (j : Int) := by omega
      rw [e]
      simp [elF, bindT, testEs, evalE, R.bind, G.bin, addD, i1]
      simp [item, h4]
    obtain ⟨ts, e1, e2, e3⟩ := sign_loop hd D0 a0 a1 a2 a3 a5 a6 a8 a10 a11 js (acc ++ [[ch]]) (fun i hi => hj i (List.mem_cons_of_mem _ hi)) (by simp only [List.length_append, List.length_cons, List.length_nil] at *; omega) (fun t ht => by
      rcases List.mem_append.mp ht with h | h
      · exact ha t h
      · rw [List.mem_singleton.mp h]; rfl)
    refine ⟨ts, ?_, e2, e3⟩
    have hacc : (acc.map D.str).length < line := by
      rw [List.length_map]
      simp only [List.length_cons] at hl
      exact Nat.lt_of_lt_of_le (show acc.length < 101 by omega) (by decide)
    rw [List.map_cons]
    simp only [lcL, he, R.bind, if_true, hacc, frz_str]
    rw [← e1]
    simp
theorem texts_map : ∀ ts : List Tx, textsOf (ts.map D.str) = some ts
  | [] => rfl
  | t :: ts => by simp [textsOf, texts_map ts]
theorem sum_ones : ∀ ts : List Tx, (∀ t ∈ ts, t.length = 1) → (ts.map List.length).sum = ts.length
  | [], _ => rfl
  | t :: ts, h => by
    rw [List.map_cons, List.sum_cons, sum_ones ts (fun x hx => h x (List.mem_cons_of_mem _ hx)), h t List.mem_cons_self, List.length_cons]
    omega
theorem joinT_len' : ∀ (ts : List Tx), (joinT [] ts).length = (ts.map List.length).sum
  | [] => rfl
  | [t] => by simp [joinT]
  | t :: u :: ts => by
    have := joinT_len' (u :: ts)
    simp only [joinT, List.append_nil, List.length_append, this, List.map_cons, List.sum_cons]
theorem o2 (hd : M[pd]? = some (.lst dl)) (D0 : Dl dl) {s : Int} (h1 : 1 ≤ s) (h2 : s ≤ 12) : ∃ (x : Tx) (ts : List D), exec (Cn n) (sget oB 2) (oE c count pr pn k (some (.ref pd)) (some (.int s)) o9 o10 o11) M = .nx (oE c count pr pn k (some (.ref pd)) (some (.int s)) o9 (some (.str x)) o11) (M ++ [.lst ts]) := by
  obtain ⟨v, h3, h4, h5⟩ := D0.d1
  obtain ⟨ch, h6⟩ := at_tx (x := letters) h4 h5
  have i1 := item_at hd h3
  obtain ⟨ts, e1, e2, e3⟩ := sign_loop (n := n) hd D0 (some (.int c)) (some (.int count)) (some (.ref pr)) (some (.str letters)) (some (.ref pn)) (some (.int k)) (some (.int s)) o10 o11 (List.range (s - 1).toNat) [] (fun j hj => by
    have := List.mem_range.mp hj
    omega) (by rw [List.length_range]; simp only [List.length_nil]; omega) (fun t ht => by cases ht)
  refine ⟨[ch] ++ joinT [] ts, ts.map D.str, ?_⟩
  have hf : fits62 (s - 1) = true := by
    unfold fits62
    rw [Bool.and_eq_true]
    exact ⟨decide_eq_true (by omega), decide_eq_true (by omega)⟩
  have hr : rangeL 0 (s - 1) = (List.range (s - 1).toNat).map fun j : Nat => D.int (0 + (j : Int)) := by
    unfold rangeL
    rw [Int.sub_zero]
  have hw : wipeE (oE c count pr pn k (some (.ref pd)) (some (.int s)) o9 o10 o11) [12, 9] = [some (.int c), some (.int count), some (.ref pr), some (.str letters), some (.str signs), some (.ref pn), some (.int k), some (.ref pd), some (.int s), none, o10, o11, none] := rfl
  have hlc : evalE (Cn n) (.lc (.name 9) (.range (.cons (.bin .sub (.var 8) (.lit (.int 1))) .nil)) (.idx (.var 4) (.idx (.var 7) (.bin .add (.lit (.int 2)) (.var 9)))) .nil [12, 9]) (oE c count pr pn k (some (.ref pd)) (some (.int s)) o9 o10 o11) M = .ok (.ref M.length) (M ++ [.lst (ts.map D.str)]) := by
    rw [x_lc, hw]
    have hwalk : walkI (Cn n) (.range (.cons (.bin .sub (.var 8) (.lit (.int 1))) .nil)) (oE c count pr pn k (some (.ref pd)) (some (.int s)) o9 o10 o11) M = .ok ⟨rangeL 0 (s - 1), fun _ => true⟩ M := by
      simp [walkI, evalEs, evalE, R.bind, oE, G.bin, ints2, walkRange, hf, optW]
    rw [hwalk, hr]
    show ((lcL (fun _ => true) _ true _ _ M).calm.bind newL) = _
    rw [show ([] : List D) = ([] : List Tx).map D.str from rfl, e1]
    rfl
  have hj : mJoin (.str []) (.ref M.length) (M ++ [.lst (ts.map D.str)]) = .ok (.str (joinT [] ts)) (M ++ [.lst (ts.map D.str)]) := by
    have hs := sum_ones ts e3
    have hle : (ts.map List.length).sum + ts.length * 0 ≤ line := by
      rw [hs, Nat.mul_zero, Nat.add_zero]
      exact Nat.le_trans e2 (by decide)
    simp [mJoin, getS, getL, texts_map]
    simpa using hle
  have hlen : 1 + (joinT [] ts).length ≤ line := by
    rw [joinT_len', sum_ones ts e3]
    exact Nat.le_trans (show 1 + ts.length ≤ 101 by omega) (by decide)
  show exec (Cn n) (.asg (.name 10) (.bin .add (.idx (.var 3) (.idx (.var 7) (.lit (.int 1)))) (.bm (.lit (.str [])) .join (.cons (.lc (.name 9) (.range (.cons (.bin .sub (.var 8) (.lit (.int 1))) .nil)) (.idx (.var 4) (.idx (.var 7) (.bin .add (.lit (.int 2)) (.var 9)))) .nil [12, 9]) .nil)))) _ M = _
  have ei : evalE (Cn n) (.idx (.var 3) (.idx (.var 7) (.lit (.int 1)))) (oE c count pr pn k (some (.ref pd)) (some (.int s)) o9 o10 o11) M = .ok (.str [ch]) M := by
    simp [evalE, R.bind, oE, i1]
    simp [item, h6]
  have eb : evalE (Cn n) (.bm (.lit (.str [])) .join (.cons (.lc (.name 9) (.range (.cons (.bin .sub (.var 8) (.lit (.int 1))) .nil)) (.idx (.var 4) (.idx (.var 7) (.bin .add (.lit (.int 2)) (.var 9)))) .nil [12, 9]) .nil)) (oE c count pr pn k (some (.ref pd)) (some (.int s)) o9 o10 o11) M = .ok (.str (joinT [] ts)) (M ++ [.lst (ts.map D.str)]) := by
    have ea : evalEs (Cn n) (.cons (.lc (.name 9) (.range (.cons (.bin .sub (.var 8) (.lit (.int 1))) .nil)) (.idx (.var 4) (.idx (.var 7) (.bin .add (.lit (.int 2)) (.var 9)))) .nil [12, 9]) .nil) (oE c count pr pn k (some (.ref pd)) (some (.int s)) o9 o10 o11) M = .ok [.ref M.length] (M ++ [.lst (ts.map D.str)]) := by
      simp only [evalEs, hlc, R.bind]
    have e0 : evalE (Cn n) (.lit (.str [])) (oE c count pr pn k (some (.ref pd)) (some (.int s)) o9 o10 o11) M = .ok (.str []) M := by simp only [evalE]
    rw [evalE, e0]
    simp only [R.bind, recv, if_true, ea]
    exact hj
  rw [x_asg, evalE, ei]
  simp only [R.bind, eb, G.bin, addD, List.length_singleton, hlen, if_true, Out.of, asgT]
  rfl
end
end Pl
set_option Elab.async false
set_option linter.all false
set_option maxRecDepth 100000
set_option maxHeartbeats 2000000
namespace Pl
open G
def menuT : List Tx := [['m', 'a', 'i', 'n'], ['n', 'o', 'r', 'm', 'a', 'l'], ['e', 'n', 'd', 's'], ['v', 'a', 'l', 'u', 'e'], ['n', 'u', 'm', 'b', 'e', 'r', '1'], ['i', 'n', 'd', 'e', 'x', '1'], ['t', 'e', 'm', 'p', '1'], ['h', 'i', 'd', 'd', 'e', 'n', '1'], ['s', 'l', 'o', 't', '0'], ['u', 's', 'i', 'n', 'g', '1'], ['t', '0'], ['s', 'e', 'l', 'e', 'c', 't', '1']]
theorem menu_at (v : Int) : ∃ y : Tx, at_ (menuT.map D.str) (v % 12) = some (.str y) := by
  have h0 := Int.emod_nonneg v (b := 12) (by decide)
  have h1 := Int.emod_lt_of_pos v (b := 12) (by decide)
  generalize v % 12 = w at h0 h1
  obtain rfl | rfl | rfl | rfl | rfl | rfl | rfl | rfl | rfl | rfl | rfl | rfl : w = 0 ∨ w = 1 ∨ w = 2 ∨ w = 3 ∨ w = 4 ∨ w = 5 ∨ w = 6 ∨ w = 7 ∨ w = 8 ∨ w = 9 ∨ w = 10 ∨ w = 11 := by omega
  all_goals exact ⟨_, rfl⟩
section
variable {n pr pn k pd : Nat} {c count : Int} {o7 o8 o9 o10 o11 : Option D} {M : Mem} {dl : List D} {x : Tx} {ns : List Tx}
theorem o3 (hd : M[pd]? = some (.lst dl)) (D0 : Dl dl) : ∃ (x' : Tx) (o11' : Option D) (ν : Mem), exec (Cn n) (sget oB 3) (oE c count pr pn k (some (.ref pd)) o8 o9 (some (.str x)) o11) M = .nx (oE c count pr pn k (some (.ref pd)) o8 o9 (some (.str x')) o11') (M ++ ν) := by
  obtain ⟨v, h1, h2, h3⟩ := D0.d0
  obtain ⟨w, h4, _, _⟩ := D0.d1
  obtain ⟨y, h5⟩ := menu_at w
  have i1 := item_at hd h1
  have i2 := item_at (pre_get (ν := [.lst (menuT.map D.str)]) hd) h4
  have i3 : item (.ref M.length) (.int (w % 12)) (M ++ [.lst (menuT.map D.str)]) = .ok (.str y) (M ++ [.lst (menuT.map D.str)]) := item_at (by simp) h5
  by_cases h6 : v = 6
  · subst h6
    refine ⟨y, some (.ref M.length), [.lst (menuT.map D.str)], ?_⟩
    simp only [menuT, List.map_cons, List.map_nil] at i2 i3 ⊢
    simp [sget, oB, nB, sfor, f__law_names, oE, x_ite, x_asg, execs, Out.of, Out.test, evalE, evalEs, R.bind, cmpR, cmpD, eqD, dictOf, eqSeq, look, D.noref, D.depth, D.eqv, truth, frzIf, frz, frz_str, newL, line, asgT, i1, i2, i3, blt, bInt, G.bin, ints2]
  · have h7 : (v == 6) = false := by simpa using h6
    refine ⟨x, o11, [], ?_⟩
    simp [sget, oB, nB, sfor, f__law_names, oE, x_ite, execs, Out.test, evalE, R.bind, cmpR, cmpD, eqD, dictOf, eqSeq, look, D.noref, D.depth, D.eqv, truth, i1, h7]
theorem o4 (hk : k < 8) (hr : M[pr]? = some (.lst (resW.map D.str))) (hn : M[pn]? = some (.lst (ns.map D.str))) : ∃ o9', exec (Cn n) (sget oB 4) (oE c count pr pn k o7 o8 o9 (some (.str x)) o11) M = .nx (oE c count pr pn k o7 o8 o9' (some (.str (freeNm ns k x))) o11) M := by
  obtain ⟨o, e⟩ := nm_loop n c count pr pn k o7 o8 o11 ns M (by omega) hr hn (textI_short k hk) (List.range 78) x o9
  refine ⟨o, ?_⟩
  show exec (Cn n) (.for (.name 9) (.range (.cons (.lit (.int 78)) .nil)) iB) _ M = _
  rw [x_for]
  have hw : walkI (Cn n) (.range (.cons (.lit (.int 78)) .nil)) (oE c count pr pn k o7 o8 o9 (some (.str x)) o11) M = .ok ⟨(List.range 78).map fun j : Nat => D.int (j : Int), fun _ => true⟩ M := by
    simp only [walkI, evalEs, evalE, R.bind, walkRange]
    rfl
  rw [hw]
  exact e
theorem o5 (hn : M[pn]? = some (.lst (ns.map D.str))) (hl : ns.length < 100) : exec (Cn n) (sget oB 5) (oE c count pr pn k o7 o8 o9 (some (.str x)) o11) M = .nx (oE c count pr pn k o7 o8 o9 (some (.str x)) o11) (M.set pn (.lst ((ns ++ [x]).map D.str))) := by
  have hlen : ns.length < line := Nat.lt_trans hl (by decide)
  simp [sget, oB, nB, sfor, f__law_names, oE, x_expr, Out.of, evalE, evalEs, R.bind, recv, getL, hn, bmeth, mAppend, frz_str, hlen]
/-- but for one cell -/
def KeepsBut (p : Nat) (μ μ' : Mem) : Prop := ∀ (i : Nat) (c : Cell), i ≠ p → μ[i]? = some c → μ'[i]? = some c
theorem KeepsBut.trans {p : Nat} {a b c : Mem} (x : KeepsBut p a b) (y : KeepsBut p b c) : KeepsBut p a c := fun i d hp h => y i d hp (x i d hp h)
theorem nm_full (hk : k < 8) (hpr : pr ≠ pn) (hr : M[pr]? = some (.lst (resW.map D.str))) (hn : M[pn]? = some (.lst (ns.map D.str))) (hl : ns.length ≤ 8) (o6 : Option D) :
    ∃ o7' o8' o9' o11' x' M', stepF (Cn (n + 1)) (.name 6) oB (.int (0 + (k : Int))) [some (.int c), some (.int count), some (.ref pr), some (.str letters), some (.str signs), some (.ref pn), o6, o7, o8, o9, o10, o11, none] M = .nx (oE c count pr pn k o7' o8' o9' (some (.str x')) o11') M' ∧
      x' ∉ ns ∧ M'[pn]? = some (.lst ((ns ++ [x']).map D.str)) ∧ KeepsBut pn M M' := by
  have e0 : (0 : Int) + (k : Int) = (k : Int) := by omega
  rw [e0]
  have D0 := dl_ok (c / 7 + 31 * k)
  let ν0 : Mem := [.lst [.int 8, .int 26]] ++ ([.lst [.int 36]] ++ ([.lst (List.replicate 11 (.int 36))] ++ ([.lst (ls13.map D.int)] ++ [.lst ((draws (c / 7 + 31 * k) ls13).map D.int)])))
  have hd : (M ++ ν0)[M.length + 4]? = some (.lst ((draws (c / 7 + 31 * k) ls13).map D.int)) := by simp [ν0]
  have q0 := o0 (n := n) (pr := pr) (pn := pn) (count := count) (o7 := o7) (o8 := o8) (o9 := o9) (o10 := o10) (o11 := o11) (M := M) (c := c) hk
  have ea : M ++ [Cell.lst [D.int 8, D.int 26]] ++ [Cell.lst [D.int 36]] ++ [Cell.lst (List.replicate 11 (D.int 36))] ++ [Cell.lst (ls13.map D.int)] ++ [Cell.lst ((draws (c / 7 + 31 * k) ls13).map D.int)] = M ++ ν0 := by simp [ν0]
  rw [ea] at q0
  obtain ⟨s, hs1, hs2, q1⟩ := o1 (n := n + 1) (pr := pr) (pn := pn) (k := k) (count := count) (o8 := o8) (o9 := o9) (o10 := o10) (o11 := o11) (c := c) hd D0
  obtain ⟨x2, t2, q2⟩ := o2 (n := n + 1) (pr := pr) (pn := pn) (k := k) (count := count) (o9 := o9) (o10 := o10) (o11 := o11) (c := c) (pre_get (ν := [.lst sizesD]) hd) D0 hs1 hs2
  obtain ⟨x3, o3', ν3, q3⟩ := o3 (n := n + 1) (pr := pr) (pn := pn) (k := k) (count := count) (o8 := some (.int s)) (o9 := o9) (o11 := o11) (c := c) (x := x2) (pre_get (ν := [.lst t2]) (pre_get (ν := [.lst sizesD]) hd)) D0
  have hr3 : (M ++ ν0 ++ [.lst sizesD] ++ [.lst t2] ++ ν3)[pr]? = some (.lst (resW.map D.str)) := pre_get (pre_get (pre_get (pre_get hr)))
  have hn3 : (M ++ ν0 ++ [.lst sizesD] ++ [.lst t2] ++ ν3)[pn]? = some (.lst (ns.map D.str)) := pre_get (pre_get (pre_get (pre_get hn)))
  obtain ⟨o9', q4⟩ := o4 (n := n + 1) (pr := pr) (pn := pn) (k := k) (count := count) (o7 := some (.ref (M.length + 4))) (o8 := some (.int s)) (o9 := o9) (o11 := o3') (c := c) (x := x3) hk hr3 hn3
  have q5 := o5 (n := n + 1) (pr := pr) (pn := pn) (k := k) (count := count) (o7 := some (.ref (M.length + 4))) (o8 := some (.int s)) (o9 := o9') (o11 := o3') (c := c) (x := freeNm ns k x3) hn3 (by omega)
  refine ⟨some (.ref (M.length + 4)), some (.int s), o9', o3', freeNm ns k x3, (M ++ ν0 ++ [Cell.lst sizesD] ++ [Cell.lst t2] ++ ν3).set pn (Cell.lst ((ns ++ [freeNm ns k x3]).map D.str)), ?_, freeNm_new hk hl, ?_, ?_⟩
  · have hb : oB = .cons (sget oB 0) (.cons (sget oB 1) (.cons (sget oB 2) (.cons (sget oB 3) (.cons (sget oB 4) (.cons (sget oB 5) .nil))))) := rfl
    show execs (Cn (n + 1)) oB (oE c count pr pn k o7 o8 o9 o10 o11) M = _
    rw [hb, execs_nx q0, execs_nx q1, execs_nx q2, execs_nx q3, execs_nx q4, execs_nx q5]
    simp only [execs]
  · rw [List.getElem?_set_self]
    exact (List.getElem?_eq_some_iff.mp hn3).1
  · intro i d hi h
    rw [List.getElem?_set_ne (Ne.symm hi)]
    exact pre_get (pre_get (pre_get (pre_get h)))
theorem nm_outer (hpr : pr ≠ pn) : ∀ (js : List Nat) (ns : List Tx) (M : Mem) (o6 o7 o8 o9 o10 o11 : Option D), (∀ j ∈ js, j < 8) → ns.length + js.length ≤ 8 → ns.Nodup → M[pr]? = some (.lst (resW.map D.str)) → M[pn]? = some (.lst (ns.map D.str)) →
    ∃ (ρ : Env) (M' : Mem) (ms : List Tx), forL (fun _ => true) (stepF (Cn (n + 1)) (.name 6) oB) (js.map fun j : Nat => D.int (0 + (j : Int))) [some (.int c), some (.int count), some (.ref pr), some (.str letters), some (.str signs), some (.ref pn), o6, o7, o8, o9, o10, o11, none] M = .nx ρ M' ∧ ρ[5]? = some (some (.ref pn)) ∧
      ms.Nodup ∧ ms.length = ns.length + js.length ∧ M'[pn]? = some (.lst (ms.map D.str)) ∧ KeepsBut pn M M'
  | [], ns, M, o6, o7, o8, o9, o10, o11, _, _, hnd, hr, hn => ⟨_, M, ns, rfl, rfl, hnd, rfl, hn, fun _ _ _ h => h⟩
  | j :: js, ns, M, o6, o7, o8, o9, o10, o11, hj, hl, hnd, hr, hn => by
    have hl' : ns.length + (js.length + 1) ≤ 8 := hl
    obtain ⟨o7', o8', o9', o11', x', M1, e1, h1, h2, h3⟩ := nm_full (n := n) (c := c) (count := count) (o7 := o7) (o8 := o8) (o9 := o9) (o10 := o10) (o11 := o11) (hj j List.mem_cons_self) hpr hr hn (by omega) o6
    obtain ⟨ρ, M', ms, e2, g1, g2, g3, g4, g5⟩ := nm_outer hpr js (ns ++ [x']) M1 (some (.int j)) o7' o8' o9' (some (.str x')) o11' (fun i hi => hj i (List.mem_cons_of_mem _ hi)) (by simp only [List.length_append, List.length_cons, List.length_nil]; omega)
      (by
        rw [List.nodup_append]
        refine ⟨hnd, by simp, fun a ha b hb e => ?_⟩
        rw [List.mem_singleton] at hb
        subst e hb
        exact h1 ha) (h3 pr _ hpr hr) h2
    refine ⟨ρ, M', ms, ?_, g1, g2, by rw [g3]; simp only [List.length_append, List.length_cons, List.length_nil]; omega, g4, h3.trans g5⟩
    rw [List.map_cons, forL_nx rfl e1]
    exact e2
end
theorem run_names (n : Nat) (c count : Int) (M : Mem) (h0 : 0 ≤ count) (h8 : count ≤ 8) : ∃ (p : Nat) (M' : Mem) (ms : List Tx), run P true (n + 2) "_law_names" [.int c, .int count] M = .ok (.ref p) M' ∧ ms.Nodup ∧ (ms.length : Int) = count ∧ M'[p]? = some (.lst (ms.map D.str)) ∧ Keeps M M' ∧ M.length ≤ p := by
  obtain ⟨ν, e0, h1⟩ := run_reserved n M
  have hp : (M ++ ν).length ≠ M.length + 6 := by
    have := (List.getElem?_eq_some_iff.mp h1).1
    omega
  obtain ⟨ρ, M', ms, e1, g1, g2, g3, g4, g5⟩ := nm_outer (n := n) (c := c) (count := count) (pr := M.length + 6) (pn := (M ++ ν).length) (Ne.symm hp) (List.range count.toNat) [] (M ++ ν ++ [.lst []]) none none none none none none (fun j hj => by
    have := List.mem_range.mp hj
    omega) (by rw [List.length_range]; simp only [List.length_nil]; omega) List.nodup_nil (pre_get h1) (by simp)
  refine ⟨(M ++ ν).length, M', ms, ?_, g2, by rw [g3, List.length_range]; simp only [List.length_nil]; omega, g4, fun i d h => ?_, by rw [List.length_append]; omega⟩
  · rw [run_of (F := f__law_names) rfl]
    refine runFn_rt rfl rfl ?_
    show execs (Cn (n + 1)) nB [some (.int c), some (.int count), none, none, none, none, none, none, none, none, none, none, none] M = _
    have hb : nB = .cons (sget nB 0) (.cons (sget nB 1) (.cons (sget nB 2) (.cons (sget nB 3) (.cons (sget nB 4) (.cons (sget nB 5) .nil))))) := rfl
    have q0 : exec (Cn (n + 1)) (sget nB 0) [some (.int c), some (.int count), none, none, none, none, none, none, none, none, none, none, none] M = .nx [some (.int c), some (.int count), some (.ref (M.length + 6)), none, none, none, none, none, none, none, none, none, none] (M ++ ν) := by
      show exec (Cn (n + 1)) (.asg (.name 2) (.call "_law_reserved" .nil)) _ _ = _
      simp only [x_asg, evalE, evalEs, R.bind, e0, Out.of, asgT]
      rfl
    have q3 : ∀ (a : Option D), exec (Cn (n + 1)) (sget nB 3) [some (.int c), some (.int count), some (.ref (M.length + 6)), some (.str letters), some (.str signs), none, none, none, none, none, none, none, none] (M ++ ν) = .nx [some (.int c), some (.int count), some (.ref (M.length + 6)), some (.str letters), some (.str signs), some (.ref (M ++ ν).length), none, none, none, none, none, none, none] (M ++ ν ++ [.lst []]) := fun _ => rfl
    have q1 : exec (Cn (n + 1)) (sget nB 1) [some (.int c), some (.int count), some (.ref (M.length + 6)), none, none, none, none, none, none, none, none, none, none] (M ++ ν) = .nx [some (.int c), some (.int count), some (.ref (M.length + 6)), some (.str letters), none, none, none, none, none, none, none, none, none] (M ++ ν) := rfl
    have q2 : exec (Cn (n + 1)) (sget nB 2) [some (.int c), some (.int count), some (.ref (M.length + 6)), some (.str letters), none, none, none, none, none, none, none, none, none] (M ++ ν) = .nx [some (.int c), some (.int count), some (.ref (M.length + 6)), some (.str letters), some (.str signs), none, none, none, none, none, none, none, none] (M ++ ν) := rfl
    have q4 : exec (Cn (n + 1)) (sget nB 4) [some (.int c), some (.int count), some (.ref (M.length + 6)), some (.str letters), some (.str signs), some (.ref (M ++ ν).length), none, none, none, none, none, none, none] (M ++ ν ++ [.lst []]) = .nx ρ M' := by
      show exec (Cn (n + 1)) (.for (.name 6) (.range (.cons (.var 1) .nil)) oB) _ _ = _
      rw [x_for]
      have hf : fits62 count = true := by
        unfold fits62
        rw [Bool.and_eq_true]
        exact ⟨decide_eq_true (by omega), decide_eq_true (by omega)⟩
      have hw : walkI (Cn (n + 1)) (.range (.cons (.var 1) .nil)) [some (.int c), some (.int count), some (.ref (M.length + 6)), some (.str letters), some (.str signs), some (.ref (M ++ ν).length), none, none, none, none, none, none, none] (M ++ ν ++ [.lst []]) = .ok ⟨(List.range count.toNat).map fun j : Nat => D.int (0 + (j : Int)), fun _ => true⟩ (M ++ ν ++ [.lst []]) := by
        simp [walkI, evalEs, evalE, R.bind, walkRange, hf, optW, rangeL]
      rw [hw]
      exact e1
    have q5 : exec (Cn (n + 1)) (sget nB 5) ρ M' = .rt (.ref (M ++ ν).length) M' := by
      show exec (Cn (n + 1)) (.ret (.var 5)) ρ M' = _
      simp only [x_ret, evalE, g1, Out.of]
    rw [hb, execs_nx q0, execs_nx q1, execs_nx q2, execs_nx (q3 none), execs_nx q4]
    exact execs_rt q5
  · have hi := (List.getElem?_eq_some_iff.mp h).1
    exact g5 i d (by rw [List.length_append]; omega) (pre_get (pre_get h))
end Pl
set_option Elab.async false
set_option linter.all false
set_option maxRecDepth 100000
set_option maxHeartbeats 2000000
namespace Pl
open G
abbrev lB : Ss := f_law.body
abbrev fB : Ss := sfor (sget lB 0)
theorem fit_mod (i : Int) : (fitI i - i) % 2000000001 = 0 := by unfold fitI; omega
theorem fit_lo (i : Int) : -1000000000 ≤ fitI i := by unfold fitI; omega
theorem fit_hi (i : Int) : fitI i ≤ 1000000000 := by unfold fitI; omega
theorem fit_in {i : Int} (h1 : -1000000000 ≤ i) (h2 : i ≤ 1000000000) : fitI i = i := by unfold fitI; omega
theorem f_turn (n : Nat) (a0 a1 a2 : Option D) (r : List (Option D)) (i : Int) (M : Mem) : stepF (Cn (n + 1)) (.name 1) fB (.int i) (a0 :: a1 :: a2 :: r) M = .nx (a0 :: some (.int i) :: some (.int (fitI i)) :: r) M := by
  have e1 : run P true (n + 1) "fitted" [.int i] M = .ok (.int (fitI i)) M := rfl
  have e2 : run P true (n + 1) "_law_fitted" [.int i] M = .ok (.int (fitI i)) M := rfl
  have h1 := fit_mod i
  have h2 := fit_lo i
  have h3 := fit_hi i
  by_cases h4 : -1000000000 ≤ i
  · by_cases h5 : i ≤ 1000000000
    · have h6 := fit_in h4 h5
      rw [h6] at e1 e2 h1 h2 h3
      rw [h6]
      simp [stepF, fB, lB, f_law, sget, sfor, bindT, execs, x_asg, x_ite, Out.of, Out.test, evalE, evalEs, R.bind, blt, bInt, asgT, e1, e2, isTys, isTy, truth, cmpR, cmpD, eqD, dictOf, eqSeq, look, D.noref, D.depth, D.eqv, neg, G.bin, ints2, h1, h2, h3, h4, h5]
    · simp [stepF, fB, lB, f_law, sget, sfor, bindT, execs, x_asg, x_ite, Out.of, Out.test, evalE, evalEs, R.bind, blt, bInt, asgT, e1, e2, isTys, isTy, truth, cmpR, cmpD, eqD, dictOf, eqSeq, look, D.noref, D.depth, D.eqv, neg, G.bin, ints2, h1, h2, h3, h4, h5]
  · simp [stepF, fB, lB, f_law, sget, sfor, bindT, execs, x_asg, x_ite, Out.of, Out.test, evalE, evalEs, R.bind, blt, bInt, asgT, e1, e2, isTys, isTy, truth, cmpR, cmpD, eqD, dictOf, eqSeq, look, D.noref, D.depth, D.eqv, neg, G.bin, ints2, h1, h2, h3, h4]
theorem f_loop (n : Nat) (a0 : Option D) (r : List (Option D)) (keep : Mem → Bool) (M : Mem) (hk : keep M = true) : ∀ (is : List Int) (a1 a2 : Option D), ∃ b1 b2, forL keep (stepF (Cn (n + 1)) (.name 1) fB) (is.map D.int) (a0 :: a1 :: a2 :: r) M = .nx (a0 :: b1 :: b2 :: r) M
  | [], a1, a2 => ⟨a1, a2, by simp [forL, hk]⟩
  | i :: is, a1, a2 => by
    obtain ⟨b1, b2, e⟩ := f_loop n a0 r keep M hk is (some (.int i)) (some (.int (fitI i)))
    exact ⟨b1, b2, by rw [List.map_cons, forL_nx hk (f_turn n a0 a1 a2 r i M), e]⟩
/-- the script's cell -/
theorem run_cell (n : Nat) (ns : List Int) (k : Nat) (M : Mem) : run P true (n + 1) "_law_cell" [.lst (ns.map D.int), .int k] M = .ok (.int (ns.getD k 0)) M := by
  rw [run_of (F := f__law_cell) rfl]
  by_cases h : k < ns.length
  · have h2 : (k : Int) < (ns.length : Int) := by omega
    have h3 : at_ (ns.map D.int) (k : Int) = some (.int (ns.getD k 0)) := by
      unfold at_ place
      rw [List.length_map, if_pos (by omega), if_pos h2, Option.bind_some, Int.toNat_natCast, List.getElem?_map, List.getElem?_eq_getElem h]
      simp [List.getD, List.getElem?_eq_getElem h]
    simp [f__law_cell, runFn, execs, x_ite, x_ret, Out.of, Out.test, evalE, evalEs, R.bind, blt, bLen, bInt, cmpR, cmpD, truth, h, item, itemL, h3]
  · have h2 : ns.getD k 0 = 0 := by simp [List.getD, List.getElem?_eq_none (Nat.le_of_not_lt h)]
    rw [h2]
    simp [f__law_cell, runFn, execs, x_ite, x_ret, Out.of, Out.test, evalE, evalEs, R.bind, blt, bLen, cmpR, cmpD, truth, h]
def ls17 : List Int := [8, 2, 2, 2, 2, 2, 2, 2, 2, 2000000001, 2000000001, 2000000001, 2000000001, 2000000001, 2000000001, 2000000001, 2000000001]
theorem ls17_good : ∀ l ∈ ls17, good l := by
  intro l hl
  simp only [ls17, List.mem_cons, List.not_mem_nil, or_false] at hl
  rcases hl with rfl | rfl | rfl | rfl | rfl | rfl | rfl | rfl | rfl | rfl | rfl | rfl | rfl | rfl | rfl | rfl | rfl <;> exact ⟨by decide, by decide⟩
def first6 : List Int := [1000000000, -1000000000, 1000000001, -1000000001, 0, 3000000000]
/-- the env of the law -/
def lE (s a1 a2 a3 a4 a5 a6 a7 a8 a9 a10 a11 a12 : Option D) : Env := [s, a1, a2, a3, a4, a5, a6, a7, a8, a9, a10, a11, a12]
def scriptD' (ns : List Int) : D := .lst (ns.map D.int)
theorem l0 (n : Nat) (ns : List Int) (M : Mem) (hl : ns.length ≤ 63) : ∃ b1 b2, exec (Cn (n + 1)) (sget lB 0) (lE (some (scriptD' ns)) none none none none none none none none none none none none) M = .nx (lE (some (scriptD' ns)) b1 b2 none none none none none none none none none none) (M ++ [Cell.lst (first6.map D.int)] ++ [Cell.lst ((first6 ++ ns).map D.int)]) := by
  have hM : (M ++ [Cell.lst (first6.map D.int)] ++ [Cell.lst ((first6 ++ ns).map D.int)])[M.length + 1]? = some (.lst ((first6 ++ ns).map D.int)) := by simp
  obtain ⟨b1, b2, e⟩ := f_loop n (some (scriptD' ns)) [none, none, none, none, none, none, none, none, none, none] (fun μ => decide (getL μ (.ref (M.length + 1)) = some ((first6 ++ ns).map D.int))) (M ++ [Cell.lst (first6.map D.int)] ++ [Cell.lst ((first6 ++ ns).map D.int)]) (by simp only [getL, hM, decide_true]) (first6 ++ ns) none none
  refine ⟨b1, b2, ?_⟩
  have hlen : 6 + ns.length ≤ line := Nat.le_trans (show 6 + ns.length ≤ 69 by omega) (by decide)
  have hw : walkI (Cn (n + 1)) (.seq (.bin .add (.lst (.cons (.lit (.int 1000000000)) (.cons (.neg (.lit (.int 1000000000))) (.cons (.lit (.int 1000000001)) (.cons (.neg (.lit (.int 1000000001))) (.cons (.lit (.int 0)) (.cons (.lit (.int 3000000000)) .nil))))))) (.var 0))) (lE (some (scriptD' ns)) none none none none none none none none none none none none) M =
      .ok ⟨(first6 ++ ns).map D.int, fun μ => decide (getL μ (.ref (M.length + 1)) = some ((first6 ++ ns).map D.int))⟩ (M ++ [Cell.lst (first6.map D.int)] ++ [Cell.lst ((first6 ++ ns).map D.int)]) := by
    have ev : evalE (Cn (n + 1)) (.bin .add (.lst (.cons (.lit (.int 1000000000)) (.cons (.neg (.lit (.int 1000000000))) (.cons (.lit (.int 1000000001)) (.cons (.neg (.lit (.int 1000000001))) (.cons (.lit (.int 0)) (.cons (.lit (.int 3000000000)) .nil))))))) (.var 0)) (lE (some (scriptD' ns)) none none none none none none none none none none none none) M = .ok (.ref (M.length + 1)) (M ++ [Cell.lst (first6.map D.int)] ++ [Cell.lst ((first6 ++ ns).map D.int)]) := by
      have h6 : line = 16777216 := rfl
      rw [h6] at hlen
      simp [evalE, evalEs, R.bind, neg, frzIf, frz, frz1, newL, line, lE, scriptD', G.bin, addD, addL, getL, first6, hlen]
    simp only [walkI, ev, R.bind, walkSeq, hM, optW]
  show exec (Cn (n + 1)) (.for (.name 1) _ fB) _ M = _
  rw [x_for, hw]
  exact e
/-- the law's first draws -/
theorem l1 (n : Nat) (ns : List Int) (b1 b2 : Option D) (M : Mem) : ∃ ν, exec (Cn (n + 1)) (sget lB 1) (lE (some (scriptD' ns)) b1 b2 none none none none none none none none none none) M = .nx (lE (some (scriptD' ns)) b1 b2 (some (.ref (M ++ ν).length)) none none none none none none none none none) (M ++ ν ++ [Cell.lst ((draws (ns.getD 0 0) ls17).map D.int)]) := by
  refine ⟨[Cell.lst [D.int 8], Cell.lst [D.int 2], Cell.lst (List.replicate 8 (D.int 2)), Cell.lst (D.int 8 :: List.replicate 8 (D.int 2)), Cell.lst [D.int 2000000001], Cell.lst (List.replicate 8 (D.int 2000000001)), Cell.lst (ls17.map D.int)], ?_⟩
  have rc := run_cell n ns 0 M
  have rd := run_draws n (ns.getD 0 0) ls17 (.ref (M.length + 6)) (M ++ [Cell.lst [D.int 8], Cell.lst [D.int 2], Cell.lst (List.replicate 8 (D.int 2)), Cell.lst (D.int 8 :: List.replicate 8 (D.int 2)), Cell.lst [D.int 2000000001], Cell.lst (List.replicate 8 (D.int 2000000001)), Cell.lst (ls17.map D.int)]) (.inr ⟨_, rfl, by simp⟩) ls17_good (by decide)
  simp only [sget, lB, f_law, x_asg, evalE, evalEs, R.bind, lE, List.getElem?_cons_zero]
  have rc' : run P true (n + 1) "_law_cell" [scriptD' ns, D.int 0] M = .ok (.int (ns.getD 0 0)) M := rc
  rw [rc']
  simp [frzIf, frz, frz1, newL, line, G.bin, addD, addL, mulD, mulL, getL, Out.of, asgT]
  simp [ls17] at rd
  rw [rd]
  simp [ls17]
end Pl
set_option Elab.async false
set_option linter.all false
set_option maxRecDepth 100000
set_option maxHeartbeats 2000000
namespace Pl
open G
theorem kGet_set (k k' : Key) (d : D) : ∀ kvs : List (Key × D), kGet k' (kSet k d kvs) = if k = k' then (kGet k kvs).map (fun _ => d) else kGet k' kvs
  | [] => by by_cases h : k = k' <;> simp [kSet, kGet, h]
  | (j, e) :: r => by
    have ih := kGet_set k k' d r
    by_cases h : k = k'
    · subst h
      rw [if_pos rfl] at ih ⊢
      by_cases h2 : j = k
      · subst h2; simp [kSet, kGet]
      · simp [kSet, kGet, h2, ih]
    · rw [if_neg h] at ih ⊢
      by_cases h2 : j = k
      · subst h2; simp [kSet, kGet, h, ih]
      · by_cases h3 : j = k'
        · subst h3; simp [kSet, kGet, h2]
        · simp [kSet, kGet, h2, h3, ih]
theorem kGet_app (k k' : Key) (d : D) : ∀ kvs : List (Key × D), kGet k' (kvs ++ [(k, d)]) = (match kGet k' kvs with
    | some e => some e
    | none => if k = k' then some d else none)
  | [] => by simp [kGet]
  | (j, e) :: r => by
    have ih := kGet_app k k' d r
    by_cases h : j = k'
    · subst h; simp [kGet]
    · simp [kGet, h, ih]
theorem kGet_put (k k' : Key) (d : D) (kvs : List (Key × D)) : kGet k' (kPut k d kvs) = if k = k' then some d else kGet k' kvs := by
  unfold kPut
  cases h : kGet k kvs with
  | some e =>
    simp only [Option.isSome_some, if_true, kGet_set, h, Option.map_some]
  | none =>
    simp only [Option.isSome_none, Bool.false_eq_true, if_false, kGet_app]
    by_cases h2 : k = k'
    · subst h2; simp [h]
    · rw [if_neg h2, if_neg h2]
      cases kGet k' kvs <;> rfl
theorem mem_kSet {k : Key} {d : D} {p : Key × D} : ∀ {kvs : List (Key × D)}, p ∈ kSet k d kvs → p = (k, d) ∨ (p ∈ kvs ∧ p.1 ≠ k)
  | [], h => by cases h
  | (j, e) :: r, h => by
    unfold kSet at h
    rcases List.mem_cons.mp h with h | h
    · split at h
      · next e2 => exact .inl (by rw [h, e2])
      · next e2 => exact .inr ⟨by rw [h]; exact List.mem_cons_self, by rw [h]; exact e2⟩
    · rcases mem_kSet h with h | h
      · exact .inl h
      · exact .inr ⟨List.mem_cons_of_mem _ h.1, h.2⟩
/-- one entry for a key, and flat values -/
structure Uq (kvs : List (Key × D)) : Prop where
  uq : ∀ p ∈ kvs, kGet p.1 kvs = some p.2
  fl : ∀ p ∈ kvs, flat p.2 = true
theorem Uq.put {kvs : List (Key × D)} (u : Uq kvs) (k : Key) {d : D} (hd : flat d = true) : Uq (kPut k d kvs) := by
  have hm : ∀ p ∈ kPut k d kvs, p = (k, d) ∨ (p ∈ kvs ∧ p.1 ≠ k) := fun p hp => by
    unfold kPut at hp
    cases h : kGet k kvs with
    | some e =>
      simp only [h, Option.isSome_some, if_true] at hp
      exact mem_kSet hp
    | none =>
      simp only [h, Option.isSome_none, Bool.false_eq_true, if_false] at hp
      rcases List.mem_append.mp hp with hp | hp
      · refine .inr ⟨hp, fun e => ?_⟩
        have := u.uq p hp
        rw [e, h] at this
        cases this
      · exact .inl (List.mem_singleton.mp hp)
  refine ⟨fun p hp => ?_, fun p hp => ?_⟩
  · rcases hm p hp with rfl | ⟨h1, h2⟩
    · rw [kGet_put, if_pos rfl]
    · rw [kGet_put, if_neg (fun e => h2 e.symm)]
      exact u.uq p h1
  · rcases hm p hp with rfl | ⟨h1, h2⟩
    · exact hd
    · exact u.fl p h1
theorem flat_ok {μ : Mem} {d : D} (h : flat d = true) : valOk μ d = true := by
  cases d <;> first | rfl | cases h
theorem flat_eqv {μ : Mem} {d : D} (h : flat d = true) : (look μ d).eqv (look μ d) = true := by
  cases d with
  | bl b => cases b <;> rfl
  | int i => simp [look, D.eqv]
  | str x => simp [look, D.eqv]
  | non => rfl
  | _ => cases h
theorem pairs_refl {μ : Mem} {kvs : List (Key × D)} (u : Uq kvs) : ∀ l : List (Key × D), (∀ p ∈ l, p ∈ kvs) → eqPairs μ kvs l = true
  | [], _ => rfl
  | (k, d) :: r, h => by
    have hm := h (k, d) List.mem_cons_self
    have e : kGet k kvs = some d := u.uq _ hm
    unfold eqPairs
    have hf : (look μ d).eqv (look μ d) = true := flat_eqv (u.fl (k, d) hm)
    rw [e]
    simp only [hf, Bool.true_and]
    exact pairs_refl u r fun p hp => h p (List.mem_cons_of_mem _ hp)
theorem dicts_eq {μ : Mem} {a b : Nat} {kvs : List (Key × D)} (ha : μ[a]? = some (.dict kvs)) (hb : μ[b]? = some (.dict kvs)) (u : Uq kvs) : eqD μ (.ref a) (.ref b) = some true := by
  have hall : kvs.all (fun p => valOk μ p.2) = true := List.all_eq_true.mpr fun p hp => flat_ok (u.fl p hp)
  have ea : dictOf μ (.ref a) = some kvs := by simp only [dictOf, ha]
  have eb : dictOf μ (.ref b) = some kvs := by simp only [dictOf, hb]
  unfold eqD
  rw [ea, eb]
  simp only [hall, Bool.and_self, if_true, decide_true, Bool.true_and, pairs_refl u kvs fun p hp => hp]
/-- x & 1 -/
theorem band_one (i : Int) : bandI i 1 = i % 2 := by
  unfold bandI
  split
  · next h =>
    show ((i.toNat &&& 1 : Nat) : Int) = _
    rw [Nat.and_one_is_mod]
    omega
  · next h =>
    show (1 : Int) - ((1 &&& (-i - 1).toNat : Nat) : Int) = _
    rw [Nat.and_comm, Nat.and_one_is_mod]
    omega
end Pl
set_option Elab.async false
set_option linter.all false
set_option maxRecDepth 100000
set_option maxHeartbeats 2000000
namespace Pl
open G
abbrev gB : Ss := sfor (sget lB 5)
theorem mult_at (v : Int) : ∃ m : Int, at_ [D.int 1, .int 1, .int 1000003] (v % 3) = some (.int m) ∧ 1 ≤ m ∧ m ≤ 1000003 := by
  have h0 := Int.emod_nonneg v (b := 3) (by decide)
  have h1 := Int.emod_lt_of_pos v (b := 3) (by decide)
  generalize v % 3 = w at h0 h1
  obtain rfl | rfl | rfl : w = 0 ∨ w = 1 ∨ w = 2 := by omega
  all_goals exact ⟨_, rfl, by decide, by decide⟩
theorem small_mul {a b : Int} (h0 : -1000000000 ≤ a) (h1 : a ≤ 1000000001) (h2 : 1 ≤ b) (h3 : b ≤ 1000003) : (Vl.int (a * b)).sm := by
  have e1 : a * b ≤ 1000000001 * 1000003 := by
    rcases Int.le_total 0 a with h | h
    · exact Int.le_trans (Int.mul_le_mul_of_nonneg_left h3 h) (Int.mul_le_mul_of_nonneg_right h1 (by decide))
    · exact Int.le_trans (Int.mul_nonpos_of_nonpos_of_nonneg h (by omega)) (by decide)
  have e2 : -1000000000 * 1000003 ≤ a * b := by
    rcases Int.le_total 0 a with h | h
    · exact Int.le_trans (show (-1000000000 * 1000003 : Int) ≤ 0 by decide) (Int.mul_nonneg h (by omega))
    · exact Int.le_trans (Int.mul_le_mul_of_nonneg_right h0 (by decide)) (Int.mul_le_mul_of_nonpos_left h h3)
  unfold Vl.sm
  omega
section
variable {n pd pn pv ps k : Nat} {s b1 b2 a7 : Option D} {M : Mem} {dl : List D} {ms : List Tx} {kvs : List (Key × D)} {seen : List (Tx × Bool)} {v d : Int} {x : Tx}
def gE (s b1 b2 : Option D) (pd pn pv ps : Nat) (a7 : Option D) : Env := lE s b1 b2 (some (.ref pd)) (some (.ref pn)) (some (.ref pv)) (some (.ref ps)) a7 none none none none none
theorem set_at {M : Mem} {p : Nat} {c c' : Cell} (h : M[p]? = some c) : (M.set p c')[p]? = some c' := List.getElem?_set_self (List.getElem?_eq_some_iff.mp h).1
theorem set_by {M : Mem} {p q : Nat} {c c' : Cell} (h : M[q]? = some c) (hn : p ≠ q) : (M.set p c')[q]? = some c := by rw [List.getElem?_set_ne hn]; exact h
theorem g0 (hn : M[pn]? = some (.lst (ms.map D.str))) (hx : at_ (ms.map D.str) (k : Int) = some (.str x)) (hd : M[pd]? = some (.lst dl)) (h9 : at_ dl (9 + (k : Int)) = some (.int v)) (hv0 : 0 ≤ v) (hv1 : v < 2000000001) (hv : M[pv]? = some (.dict kvs)) (hl : kvs.length < 100) :
    ∃ w : Int, (Vl.int w).sm ∧ exec (Cn n) (sget gB 0) (gE s b1 b2 pd pn pv ps (some (.int k))) M = .nx (gE s b1 b2 pd pn pv ps (some (.int k))) ((M ++ [Cell.lst [.int 1, .int 1, .int 1000003]]).set pv (.dict (kPut (.inr x) (.int w) kvs))) := by
  obtain ⟨m, h1, h2, h3⟩ := mult_at v
  have hsm := small_mul (a := v - 1000000000) (b := m) (by omega) (by omega) h2 h3
  refine ⟨(v - 1000000000) * m, hsm, ?_⟩
  have hm : mulOk (v - 1000000000) m = true := mul_sm (i := v - 1000000000) (by unfold Vl.sm; omega)
  have i1 := item_at hd h9
  have i2 := item_at (pre_get (ν := [Cell.lst [.int 1, .int 1, .int 1000003]]) hd) h9
  have i3 : item (.ref M.length) (.int (v % 3)) (M ++ [Cell.lst [.int 1, .int 1, .int 1000003]]) = .ok (.int m) (M ++ [Cell.lst [.int 1, .int 1, .int 1000003]]) := item_at (by simp) h1
  have i4 := item_at (pre_get (ν := [Cell.lst [.int 1, .int 1, .int 1000003]]) hn) hx
  have hv' := pre_get (ν := [Cell.lst [.int 1, .int 1, .int 1000003]]) hv
  have hll : kvs.length < 16777216 := by omega
  simp [hll, sget, gB, lB, sfor, f_law, gE, lE, x_asg, Out.of, evalE, evalEs, R.bind, G.bin, addD, mulD, ints2, blt, bInt, frzIf, frz, frz1, newL, line, asgT, i1, i2, i3, i4, hm, store, hv', keyOf]
theorem kind_at {d : Int} (h0 : 0 ≤ d) (h1 : d < 2) : at_ [D.str ['i', 'n', 't'], .str ['b', 'o', 'o', 'l']] d = some (.str (kd (d == 1))) := by
  obtain rfl | rfl : d = 0 ∨ d = 1 := by omega
  · rfl
  · rfl
theorem g1 (hn : M[pn]? = some (.lst (ms.map D.str))) (hx : at_ (ms.map D.str) (k : Int) = some (.str x)) (hd : M[pd]? = some (.lst dl)) (h1 : at_ dl (1 + (k : Int)) = some (.int d)) (hd0 : 0 ≤ d) (hd1 : d < 2) (hs : M[ps]? = some (.lst (seenD seen))) (hl : seen.length < 100) :
    exec (Cn n) (sget gB 1) (gE s b1 b2 pd pn pv ps (some (.int k))) M = .nx (gE s b1 b2 pd pn pv ps (some (.int k))) ((M ++ [Cell.lst [.str ['i', 'n', 't'], .str ['b', 'o', 'o', 'l']]]).set ps (.lst (seenD (seen ++ [(x, d == 1)])))) := by
  have h2 := kind_at hd0 hd1
  have i1 := item_at (pre_get (ν := [Cell.lst [.str ['i', 'n', 't'], .str ['b', 'o', 'o', 'l']]]) hd) h1
  have i3 : item (.ref M.length) (.int d) (M ++ [Cell.lst [.str ['i', 'n', 't'], .str ['b', 'o', 'o', 'l']]]) = .ok (.str (kd (d == 1))) (M ++ [Cell.lst [.str ['i', 'n', 't'], .str ['b', 'o', 'o', 'l']]]) := item_at (by simp) h2
  have i4 := item_at hn hx
  have hs' := pre_get (ν := [Cell.lst [.str ['i', 'n', 't'], .str ['b', 'o', 'o', 'l']]]) hs
  have hll : (seenD seen).length < 16777216 := by
    unfold seenD
    rw [List.length_map]
    omega
  have hrecv : (getL M (.ref ps)).isSome = true := by simp only [getL, hs]; rfl
  have hmap : seenD (seen ++ [(x, d == 1)]) = seenD seen ++ [.tup [.str x, .str (kd (d == 1))]] := by simp [seenD]
  rw [hmap]
  simp [hll, sget, gB, lB, sfor, f_law, gE, lE, x_expr, Out.of, evalE, evalEs, R.bind, G.bin, addD, frzIf, frz, frz_str, newL, line, recv, hrecv, i1, i3, i4, bmeth, mAppend, frz1, hs']
theorem g2 (hn : M[pn]? = some (.lst (ms.map D.str))) (hx : at_ (ms.map D.str) (k : Int) = some (.str x)) (hd : M[pd]? = some (.lst dl)) (h1 : at_ dl (1 + (k : Int)) = some (.int d)) (h9 : at_ dl (9 + (k : Int)) = some (.int v)) (hv : M[pv]? = some (.dict kvs)) (hl : kvs.length < 200) :
    exec (Cn n) (sget gB 2) (gE s b1 b2 pd pn pv ps (some (.int k))) M = .nx (gE s b1 b2 pd pn pv ps (some (.int k))) (if d == 1 then M.set pv (.dict (kPut (.inr x) (.bl (bandI v 1 == 1)) kvs)) else M) := by
  have i1 := item_at hd h1
  have i2 := item_at hd h9
  have i4 := item_at hn hx
  have hll : kvs.length < line := Nat.lt_trans hl (by decide)
  cases hc : d == 1 with
  | true =>
    simp [sget, gB, lB, sfor, f_law, gE, lE, x_ite, x_asg, execs, Out.of, Out.test, evalE, R.bind, G.bin, addD, ints2, i1, i2, i4, cmpR, cmpD, eqD, dictOf, eqSeq, look, D.noref, D.depth, D.eqv, truth, hc, asgT, store, hv, keyOf, hll]
  | false =>
    simp [sget, gB, lB, sfor, f_law, gE, lE, x_ite, execs, Out.test, evalE, R.bind, G.bin, addD, i1, cmpR, cmpD, eqD, dictOf, eqSeq, look, D.noref, D.depth, D.eqv, truth, hc]
end
end Pl
set_option Elab.async false
set_option linter.all false
set_option maxRecDepth 100000
set_option maxHeartbeats 2000000
namespace Pl
open G
theorem len_kSet (k : Key) (d : D) : ∀ kvs : List (Key × D), (kSet k d kvs).length = kvs.length
  | [] => rfl
  | (j, e) :: r => by simp [kSet, len_kSet k d r]
theorem len_put (k : Key) (d : D) (kvs : List (Key × D)) : (kPut k d kvs).length ≤ kvs.length + 1 := by
  unfold kPut
  split
  · rw [len_kSet]; omega
  · simp
structure Iv (pd pn pv ps : Nat) (dl : List D) (ms : List Tx) (M : Mem) (kvs : List (Key × D)) (seen : List (Tx × Bool)) (env : Tx → Option Vl) : Prop where
  hd : M[pd]? = some (.lst dl)
  hn : M[pn]? = some (.lst (ms.map D.str))
  hv : M[pv]? = some (.dict kvs)
  hs : M[ps]? = some (.lst (seenD seen))
  uq : Uq kvs
  en : envOf kvs env
  se : ∀ p ∈ seen, ∃ v, env p.1 = some v ∧ v.isB = p.2 ∧ v.sm
structure Ap (pd pn pv ps : Nat) : Prop where
  vd : pv ≠ pd
  vn : pv ≠ pn
  vs : pv ≠ ps
  sd : ps ≠ pd
  sn : ps ≠ pn
structure D17 (dl : List D) : Prop where
  k : ∀ i : Nat, i < 8 → ∃ d, at_ dl (1 + (i : Int)) = some (.int d) ∧ 0 ≤ d ∧ d < 2
  v : ∀ i : Nat, i < 8 → ∃ d, at_ dl (9 + (i : Int)) = some (.int d) ∧ 0 ≤ d ∧ d < 2000000001
theorem g_turn (n : Nat) {pd pn pv ps k : Nat} {s b1 b2 a7 : Option D} {M : Mem} {dl : List D} {ms : List Tx} {kvs : List (Key × D)} {seen : List (Tx × Bool)} {env : Tx → Option Vl} {x : Tx} (I : Iv pd pn pv ps dl ms M kvs seen env) (A : Ap pd pn pv ps) (W : D17 dl) (hk : k < 8) (hx : at_ (ms.map D.str) (k : Int) = some (.str x))
    (hnew : ∀ p ∈ seen, p.1 ≠ x) (hkl : kvs.length < 100) (hsl : seen.length < 100) :
    ∃ M' kvs' b env', stepF (Cn n) (.name 7) gB (.int (0 + (k : Int))) (gE s b1 b2 pd pn pv ps a7) M = .nx (gE s b1 b2 pd pn pv ps (some (.int k))) M' ∧ Iv pd pn pv ps dl ms M' kvs' (seen ++ [(x, b)]) env' ∧ kvs'.length ≤ kvs.length + 2 := by
  obtain ⟨d, q1, q2, q3⟩ := W.k k hk
  obtain ⟨v, q4, q5, q6⟩ := W.v k hk
  have e0 : (0 : Int) + (k : Int) = (k : Int) := by omega
  rw [e0]
  obtain ⟨w, hw, r0⟩ := g0 (n := n) (s := s) (b1 := b1) (b2 := b2) (ps := ps) I.hn hx I.hd q4 q5 q6 I.hv hkl
  let A1 : Cell := .lst [.int 1, .int 1, .int 1000003]
  let K1 : Cell := .lst [.str ['i', 'n', 't'], .str ['b', 'o', 'o', 'l']]
  let kv1 := kPut (.inr x) (.int w) kvs
  let M1 := (M ++ [A1]).set pv (.dict kv1)
  have m1v : M1[pv]? = some (.dict kv1) := set_at (pre_get I.hv)
  have m1d : M1[pd]? = some (.lst dl) := set_by (pre_get I.hd) A.vd
  have m1n : M1[pn]? = some (.lst (ms.map D.str)) := set_by (pre_get I.hn) A.vn
  have m1s : M1[ps]? = some (.lst (seenD seen)) := set_by (pre_get I.hs) A.vs
  have r1 := g1 (n := n) (s := s) (b1 := b1) (b2 := b2) (pv := pv) m1n hx m1d q1 q2 q3 m1s hsl
  let M2 := (M1 ++ [K1]).set ps (.lst (seenD (seen ++ [(x, d == 1)])))
  have m2s : M2[ps]? = some (.lst (seenD (seen ++ [(x, d == 1)]))) := set_at (pre_get m1s)
  have m2v : M2[pv]? = some (.dict kv1) := set_by (pre_get m1v) A.vs.symm
  have m2d : M2[pd]? = some (.lst dl) := set_by (pre_get m1d) A.sd
  have m2n : M2[pn]? = some (.lst (ms.map D.str)) := set_by (pre_get m1n) A.sn
  have hl1 := len_put (.inr x) (.int w) kvs
  have r2 := g2 (n := n) (s := s) (b1 := b1) (b2 := b2) (ps := ps) m2n hx m2d q1 q4 m2v (show kv1.length < 200 by show (kPut _ _ kvs).length < 200; omega)
  have hb : gB = .cons (sget gB 0) (.cons (sget gB 1) (.cons (sget gB 2) .nil)) := rfl
  have run : ∀ M3, exec (Cn n) (sget gB 2) (gE s b1 b2 pd pn pv ps (some (.int k))) M2 = .nx (gE s b1 b2 pd pn pv ps (some (.int k))) M3 → stepF (Cn n) (.name 7) gB (.int (k : Int)) (gE s b1 b2 pd pn pv ps a7) M = .nx (gE s b1 b2 pd pn pv ps (some (.int k))) M3 := fun M3 h => by
    show execs (Cn n) gB (gE s b1 b2 pd pn pv ps (some (.int k))) M = _
    rw [hb, execs_nx r0, execs_nx r1, execs_nx h]
    simp only [execs]
  have old : ∀ (vx : Vl) (kv2 : List (Key × D)), (∀ y, kGet (.inr y) kv2 = if x = y then some vx.d else kGet (.inr y) kvs) → envOf kv2 (fun y => if y = x then some vx else env y) := fun vx kv2 h y z hz => by
    rw [h]
    by_cases e : y = x
    · subst e
      simp only [if_true, Option.some.injEq] at hz
      subst hz
      rw [if_pos rfl]
    · simp only [e, if_false] at hz
      rw [if_neg (fun e2 => e e2.symm)]
      exact I.en y z hz
  have seen' : ∀ (vx : Vl), vx.isB = (d == 1) → vx.sm → ∀ p ∈ seen ++ [(x, d == 1)], ∃ u, (if p.1 = x then some vx else env p.1) = some u ∧ u.isB = p.2 ∧ u.sm := fun vx h1 h2 p hp => by
    rcases List.mem_append.mp hp with hp | hp
    · rw [if_neg (hnew p hp)]
      exact I.se p hp
    · rw [List.mem_singleton.mp hp, if_pos rfl]
      exact ⟨vx, rfl, h1, h2⟩
  have g1' : ∀ y, kGet (.inr y) kv1 = if x = y then some (D.int w) else kGet (.inr y) kvs := fun y => by
    show kGet _ (kPut _ _ kvs) = _
    rw [kGet_put]
    by_cases e : x = y
    · subst e; simp
    · rw [if_neg (fun h => e (Sum.inr.inj h)), if_neg e]
  cases hd1 : d == 1 with
  | false =>
    rw [hd1] at r2
    refine ⟨M2, kv1, d == 1, fun y => if y = x then some (.int w) else env y, run M2 r2, ⟨m2d, m2n, m2v, m2s, I.uq.put _ rfl, old (.int w) kv1 g1', seen' (.int w) (by rw [hd1]; rfl) hw⟩, ?_⟩
    show (kPut _ _ kvs).length ≤ _
    omega
  | true =>
    rw [hd1] at r2
    let kv2 := kPut (.inr x) (.bl (bandI v 1 == 1)) kv1
    have hl2 := len_put (.inr x) (.bl (bandI v 1 == 1)) kv1
    have g2' : ∀ y, kGet (.inr y) kv2 = if x = y then some (Vl.bl (bandI v 1 == 1)).d else kGet (.inr y) kvs := fun y => by
      show kGet _ (kPut _ _ kv1) = _
      rw [kGet_put]
      by_cases e : x = y
      · subst e; simp [Vl.d]
      · rw [if_neg (fun h => e (Sum.inr.inj h)), if_neg e, g1' y, if_neg e]
    refine ⟨M2.set pv (.dict kv2), kv2, d == 1, fun y => if y = x then some (.bl (bandI v 1 == 1)) else env y, run _ r2, ⟨set_by m2d A.vd, set_by m2n A.vn, set_at m2v, set_by m2s A.vs, (I.uq.put _ rfl).put _ rfl, old (.bl (bandI v 1 == 1)) kv2 g2', seen' (.bl (bandI v 1 == 1)) (by rw [hd1]; rfl) trivial⟩, ?_⟩
    have hl1' : kv1.length ≤ kvs.length + 1 := hl1
    show (kPut _ _ kv1).length ≤ _
    omega
end Pl
set_option Elab.async false
set_option linter.all false
set_option maxRecDepth 100000
set_option maxHeartbeats 2000000
namespace Pl
open G
theorem strs_at {ms : List Tx} {k : Nat} {x : Tx} (h : ms[k]? = some x) : at_ (ms.map D.str) (k : Int) = some (.str x) := by
  have hk := (List.getElem?_eq_some_iff.mp h).1
  unfold at_ place
  rw [List.length_map, if_pos (by omega), if_pos (by omega), Option.bind_some, Int.toNat_natCast, List.getElem?_map, h]
  rfl
theorem g_loop (n : Nat) {pd pn pv ps : Nat} {s b1 b2 : Option D} {dl : List D} {ms : List Tx} (A : Ap pd pn pv ps) (W : D17 dl) (hms : ms.Nodup) (hlen : ms.length ≤ 8) : ∀ (m j : Nat) (a7 : Option D) (M : Mem) (kvs : List (Key × D)) (seen : List (Tx × Bool)) (env : Tx → Option Vl), j + m = ms.length → Iv pd pn pv ps dl ms M kvs seen env →
    seen.map (·.1) = ms.take j → kvs.length ≤ 2 * j → ∃ a7' M' kvs' seen' env', forL (fun _ => true) (stepF (Cn n) (.name 7) gB) ((List.range' j m).map fun i : Nat => D.int (0 + (i : Int))) (gE s b1 b2 pd pn pv ps a7) M = .nx (gE s b1 b2 pd pn pv ps a7') M' ∧ Iv pd pn pv ps dl ms M' kvs' seen' env' ∧ seen'.length = ms.length
  | 0, j, a7, M, kvs, seen, env, hj, I, hs, hk => by
    refine ⟨a7, M, kvs, seen, env, by simp [forL], I, ?_⟩
    have := congrArg List.length hs
    rw [List.length_map, List.length_take] at this
    omega
  | m + 1, j, a7, M, kvs, seen, env, hj, I, hs, hk => by
    have hjl : j < ms.length := by omega
    have hx : ms[j]? = some ms[j] := List.getElem?_eq_getElem hjl
    have hsl : seen.length = j := by
      have := congrArg List.length hs
      rw [List.length_map, List.length_take] at this
      omega
    have hnew : ∀ p ∈ seen, p.1 ≠ ms[j] := fun p hp e => by
      have hm : p.1 ∈ ms.take j := by rw [← hs]; exact List.mem_map_of_mem hp
      rw [e] at hm
      obtain ⟨i, hi, hi2⟩ := List.mem_iff_getElem.mp hm
      rw [List.length_take] at hi
      rw [List.getElem_take] at hi2
      have := (List.getElem_inj hms).mp hi2
      omega
    obtain ⟨M', kvs', b, env', e, I', hl'⟩ := g_turn n (s := s) (b1 := b1) (b2 := b2) (a7 := a7) (k := j) I A W (by omega) (strs_at hx) hnew (by omega) (by omega)
    obtain ⟨a7', M2, kvs2, seen2, env2, e2, I2, h2⟩ := g_loop n (s := s) (b1 := b1) (b2 := b2) A W hms hlen m (j + 1) (some (.int j)) M' kvs' (seen ++ [(ms[j], b)]) env' (by omega) I' (by
      rw [List.map_append, hs, List.map_cons, List.map_nil, List.take_succ, hx]
      rfl) (by omega)
    refine ⟨a7', M2, kvs2, seen2, env2, ?_, I2, h2⟩
    rw [List.range'_succ, List.map_cons, forL_nx rfl e]
    exact e2
/-! ### the expressions -/
theorem q_int (N : Mem) (a b : Int) : eqD N (.int a) (.int b) = some (a == b) := by simp [eqD, dictOf, eqSeq, look, D.noref, D.depth, D.eqv]
theorem q_bl (N : Mem) (a b : Bool) : eqD N (.bl a) (.bl b) = some (a == b) := by simp [eqD, dictOf, eqSeq, look, D.noref, D.depth, D.eqv]
theorem q_str (N : Mem) (a b : Tx) : eqD N (.str a) (.str b) = some (a == b) := by simp [eqD, dictOf, eqSeq, look, D.noref, D.depth, D.eqv]
abbrev hB : Ss := sfor (sget lB 7)
def hE (s a1 : Option D) (pd pn pv ps pk : Nat) (a2 a7 a9 a10 a11 a12 : Option D) : Env := [s, a1, a2, some (.ref pd), some (.ref pn), some (.ref pv), some (.ref ps), a7, some (.ref pk), a9, a10, a11, a12]
theorem h_turn (n : Nat) {pd pn pv ps pk : Nat} {s a1 a2 a7 a9 a10 a11 a12 : Option D} {M : Mem} {kvs : List (Key × D)} {seen : List (Tx × Bool)} {env : Tx → Option Vl} (hn : 12 ≤ n) (hv : M[pv]? = some (.dict kvs)) (hk : M[pk]? = some (.dict kvs)) (hs : M[ps]? = some (.lst (seenD seen))) (uq : Uq kvs) (en : envOf kvs env)
    (se : ∀ p ∈ seen, ∃ v, env p.1 = some v ∧ v.isB = p.2 ∧ v.sm) (hsl : seen.length ≤ line) (i : Int) :
    ∃ ν b2 b10 b11 b12, stepF (Cn n) (.name 9) hB (.int i) (hE s a1 pd pn pv ps pk a2 a7 a9 a10 a11 a12) M = .nx (hE s a1 pd pn pv ps pk b2 a7 (some (.int i)) b10 b11 b12) (M ++ ν) := by
  let K1 : Cell := .lst [.str ['i', 'n', 't'], .str ['b', 'o', 'o', 'l']]
  have hb0 : 0 ≤ bandI i 1 ∧ bandI i 1 < 2 := by rw [band_one]; omega
  have hkind := kind_at hb0.1 hb0.2
  have i1 : item (.ref M.length) (.int (bandI i 1)) (M ++ [K1]) = .ok (.str (kd (bandI i 1 == 1))) (M ++ [K1]) := item_at (by simp [K1]) hkind
  let dep := (i / 2 % 8).toNat
  have hdep : ((dep : Nat) : Int) = i / 2 % 8 := by
    show (((i / 2 % 8).toNat : Nat) : Int) = _
    omega
  have hd8 : dep ≤ 7 := by
    show (i / 2 % 8).toNat ≤ 7
    omega
  obtain ⟨t, v, ν1, e1, fv⟩ := run_expr ps seen env se hsl dep n (by omega) (i / 2) (bandI i 1 == 1) (M ++ [K1]) (pre_get hs)
  rw [hdep] at e1
  have e2 := run_value env kvs en pv t v n (M ++ [K1] ++ ν1) fv.val (pre_get (pre_get hv)) (by have := fv.dep; omega)
  obtain ⟨ν2, e3⟩ := run_worth env kvs en pk t v n (M ++ [K1] ++ ν1) fv.val (pre_get (pre_get hk)) (by have := fv.dep; omega)
  have hq : eqD (M ++ [K1] ++ ν1 ++ ν2) (.ref pv) (.ref pk) = some true := dicts_eq (pre_get (pre_get (pre_get hv))) (pre_get (pre_get (pre_get hk))) uq
  refine ⟨[K1] ++ ν1 ++ ν2, some v.d, some (.str (kd (bandI i 1 == 1))), some t.d, some v.d, ?_⟩
  have hb : hB = .cons (sget hB 0) (.cons (sget hB 1) (.cons (sget hB 2) (.cons (sget hB 3) (.cons (sget hB 4) .nil)))) := rfl
  have q0 : exec (Cn n) (sget hB 0) (hE s a1 pd pn pv ps pk a2 a7 (some (.int i)) a10 a11 a12) M = .nx (hE s a1 pd pn pv ps pk a2 a7 (some (.int i)) (some (.str (kd (bandI i 1 == 1)))) a11 a12) (M ++ [K1]) := by
    simp only [K1] at i1
    simp [sget, hB, lB, sfor, f_law, hE, x_asg, Out.of, evalE, evalEs, R.bind, G.bin, ints2, blt, bInt, frzIf, frz, frz1, newL, line, asgT, i1, K1]
  have q1 : exec (Cn n) (sget hB 1) (hE s a1 pd pn pv ps pk a2 a7 (some (.int i)) (some (.str (kd (bandI i 1 == 1)))) a11 a12) (M ++ [K1]) = .nx (hE s a1 pd pn pv ps pk a2 a7 (some (.int i)) (some (.str (kd (bandI i 1 == 1)))) (some t.d) a12) (M ++ [K1] ++ ν1) := by
    simp [sget, hB, lB, sfor, f_law, hE, x_asg, Out.of, evalE, evalEs, R.bind, G.bin, ints2, blt, bInt, asgT]
    rw [e1]
    simp
  have q2 : exec (Cn n) (sget hB 2) (hE s a1 pd pn pv ps pk a2 a7 (some (.int i)) (some (.str (kd (bandI i 1 == 1)))) (some t.d) a12) (M ++ [K1] ++ ν1) = .nx (hE s a1 pd pn pv ps pk (some v.d) a7 (some (.int i)) (some (.str (kd (bandI i 1 == 1)))) (some t.d) a12) (M ++ [K1] ++ ν1) := by
    show exec (Cn n) (.asg (.name 2) (.call "value_of" (.cons (.var 11) (.cons (.var 5) .nil)))) _ _ = _
    simp only [x_asg, evalE, evalEs, R.bind, hE, List.getElem?_cons_zero, List.getElem?_cons_succ, e2, Out.of, asgT]
    rfl
  have q3 : exec (Cn n) (sget hB 3) (hE s a1 pd pn pv ps pk (some v.d) a7 (some (.int i)) (some (.str (kd (bandI i 1 == 1)))) (some t.d) a12) (M ++ [K1] ++ ν1) = .nx (hE s a1 pd pn pv ps pk (some v.d) a7 (some (.int i)) (some (.str (kd (bandI i 1 == 1)))) (some t.d) (some v.d)) (M ++ [K1] ++ ν1 ++ ν2) := by
    show exec (Cn n) (.asg (.name 12) (.call "_law_worth" (.cons (.var 11) (.cons (.var 8) .nil)))) _ _ = _
    simp only [x_asg, evalE, evalEs, R.bind, hE, List.getElem?_cons_zero, List.getElem?_cons_succ, e3, Out.of, asgT]
    rfl
  have q4 : exec (Cn n) (sget hB 4) (hE s a1 pd pn pv ps pk (some v.d) a7 (some (.int i)) (some (.str (kd (bandI i 1 == 1)))) (some t.d) (some v.d)) (M ++ [K1] ++ ν1 ++ ν2) = .nx (hE s a1 pd pn pv ps pk (some v.d) a7 (some (.int i)) (some (.str (kd (bandI i 1 == 1)))) (some t.d) (some v.d)) (M ++ [K1] ++ ν1 ++ ν2) := by
    have hki := fv.kind
    generalize (bandI i 1 == 1) = kk at hki ⊢
    generalize (M ++ [K1] ++ ν1 ++ ν2) = N at hq ⊢
    cases v with
    | int a =>
      have : kk = false := hki.symm
      subst this
      simp [sget, hB, lB, sfor, f_law, hE, x_ite, execs, Out.test, evalE, R.bind, cmpR, cmpD, Vl.d, isTys, isTy, truth, hq, kd, q_int, q_bl, q_str]
    | bl a =>
      have : kk = true := hki.symm
      subst this
      simp [sget, hB, lB, sfor, f_law, hE, x_ite, execs, Out.test, evalE, R.bind, cmpR, cmpD, Vl.d, isTys, isTy, truth, hq, kd, q_int, q_bl, q_str]
  show execs (Cn n) hB (hE s a1 pd pn pv ps pk a2 a7 (some (.int i)) a10 a11 a12) M = _
  rw [hb, execs_nx q0, execs_nx q1, execs_nx q2, execs_nx q3, execs_nx q4]
  simp [execs]
end Pl
set_option Elab.async false
set_option linter.all false
set_option maxRecDepth 100000
set_option maxHeartbeats 2000000
namespace Pl
open G
theorem h_loop (n : Nat) {pd pn pv ps pk : Nat} {s a1 : Option D} {kvs : List (Key × D)} {seen : List (Tx × Bool)} {env : Tx → Option Vl} (keep : Mem → Bool) (hn : 12 ≤ n) (uq : Uq kvs) (en : envOf kvs env) (se : ∀ p ∈ seen, ∃ v, env p.1 = some v ∧ v.isB = p.2 ∧ v.sm) (hsl : seen.length ≤ line) :
    ∀ (is : List Int) (M : Mem) (a2 a7 a9 a10 a11 a12 : Option D), (∀ ν, keep (M ++ ν) = true) → M[pv]? = some (.dict kvs) → M[pk]? = some (.dict kvs) → M[ps]? = some (.lst (seenD seen)) →
    ∃ ρ M', forL keep (stepF (Cn n) (.name 9) hB) (is.map D.int) (hE s a1 pd pn pv ps pk a2 a7 a9 a10 a11 a12) M = .nx ρ M'
  | [], M, a2, a7, a9, a10, a11, a12, hk, _, _, _ => by
    have := hk []
    rw [List.append_nil] at this
    exact ⟨_, M, by simp only [List.map_nil, forL, this, if_true]; rfl⟩
  | i :: is, M, a2, a7, a9, a10, a11, a12, hk, hv, hp, hs => by
    obtain ⟨ν, b2, b10, b11, b12, e⟩ := h_turn n (pd := pd) (pn := pn) (s := s) (a1 := a1) (a2 := a2) (a7 := a7) (a9 := a9) (a10 := a10) (a11 := a11) (a12 := a12) hn hv hp hs uq en se hsl i
    obtain ⟨ρ, M', e2⟩ := h_loop n keep hn uq en se hsl is (M ++ ν) b2 a7 (some (.int i)) b10 b11 b12 (fun ν' => by rw [List.append_assoc]; exact hk _) (pre_get hv) (pre_get hp) (pre_get hs)
    have h0 := hk []
    rw [List.append_nil] at h0
    exact ⟨ρ, M', by rw [List.map_cons, forL_nx h0 e]; exact e2⟩
theorem dl17_at (c : Int) (i : Nat) (l : Int) (h : ls17[i]? = some l) : ∃ v, at_ ((draws c ls17).map D.int) (i : Int) = some (.int v) ∧ 0 ≤ v ∧ v < l := by
  obtain ⟨v, h1, h2⟩ := draws_at (c := c) ls17_good h
  refine ⟨v, ?_, h2⟩
  have hi := (List.getElem?_eq_some_iff.mp h1).1
  unfold at_ place
  rw [List.length_map, if_pos (by omega), if_pos (by omega), Option.bind_some, Int.toNat_natCast, List.getElem?_map, h1]
  rfl
theorem d17 (c : Int) : D17 ((draws c ls17).map D.int) := by
  refine ⟨fun i hi => ?_, fun i hi => ?_⟩
  · have h : ∀ i, i < 8 → ls17[1 + i]? = some 2 := by decide
    have e : (1 : Int) + (i : Int) = ((1 + i : Nat) : Int) := by omega
    rw [e]
    exact dl17_at c (1 + i) 2 (h i hi)
  · have h : ∀ i, i < 8 → ls17[9 + i]? = some 2000000001 := by decide
    have e : (9 : Int) + (i : Int) = ((9 + i : Nat) : Int) := by omega
    rw [e]
    exact dl17_at c (9 + i) 2000000001 (h i hi)
theorem cut_ints (ns : List Int) : ∃ js : List Int, cut (ns.map D.int) (some 2) none = js.map D.int ∧ js.length ≤ ns.length := by
  refine ⟨(ns.take ns.length).drop (bound ns.length 2), ?_, ?_⟩
  · show ((ns.map D.int).take (ns.map D.int).length).drop (bound (ns.map D.int).length 2) = _
    rw [List.length_map, List.map_drop, List.map_take]
  · rw [List.length_drop, List.length_take]
    omega
theorem walk_rng {C : Ctx} {e : E} {ρ : Env} {M : Mem} {z : Int} (he : evalE C e ρ M = .ok (.int z) M) (h0 : 0 ≤ z) (h8 : z ≤ 8) : walkI C (.range (.cons e .nil)) ρ M = .ok ⟨rangeL 0 z, fun _ => true⟩ M := by
  have hf : fits62 z = true := by
    unfold fits62
    rw [Bool.and_eq_true]
    exact ⟨decide_eq_true (by omega), decide_eq_true (by omega)⟩
  simp only [walkI, evalEs, he, R.bind, walkRange, hf, if_true, optW]
theorem rng_len (m : Nat) : rangeL 0 (m : Int) = (List.range' 0 m).map fun i : Nat => D.int (0 + (i : Int)) := by
  unfold rangeL
  rw [Int.sub_zero, Int.toNat_natCast, List.range_eq_range']
theorem ev_len {C : Ctx} {ρ : Env} {M : Mem} {pn : Nat} {ms : List Tx} (h4 : ρ[4]? = some (some (.ref pn))) (hn : M[pn]? = some (.lst (ms.map D.str))) : evalE C (.blt .len (.cons (.var 4) .nil)) ρ M = .ok (.int (ms.length : Int)) M := by
  simp only [evalE, evalEs, h4, R.bind, blt, bLen, hn, List.length_map]
theorem law_true (n : Nat) (hn : 12 ≤ n) (ns : List Int) (hl : ns.length ≤ 63) : ∃ μ, run P true (n + 3) "law" [scriptD' ns] [] = .ok (.bl true) μ := by
  obtain ⟨b1, b2, q0⟩ := l0 (n + 1) ns [] hl
  generalize hM1 : ([] ++ [Cell.lst (first6.map D.int)] ++ [Cell.lst ((first6 ++ ns).map D.int)] : Mem) = M1 at q0
  obtain ⟨ν, q1⟩ := l1 (n + 1) ns b1 b2 M1
  let dl := (draws (ns.getD 0 0) ls17).map D.int
  let pd := (M1 ++ ν).length
  let M2 : Mem := M1 ++ ν ++ [Cell.lst dl]
  have hd2 : M2[pd]? = some (.lst dl) := by simp [M2, pd]
  obtain ⟨r0, hr0, hr1, hr2⟩ := dl17_at (ns.getD 0 0) 0 8 rfl
  have i0 : item (.ref pd) (.int 0) M2 = .ok (.int r0) M2 := item_at hd2 hr0
  obtain ⟨pn, M3, ms, rn, hnd, hlen, hn3, hkeep, _⟩ := run_names n (ns.getD 1 0) (1 + r0) M2 (by omega) (by omega)
  have hd3 := hkeep _ _ hd2
  have q2 : exec (Cn (n + 2)) (sget lB 2) (lE (some (scriptD' ns)) b1 b2 (some (.ref pd)) none none none none none none none none none) M2 = .nx (lE (some (scriptD' ns)) b1 b2 (some (.ref pd)) (some (.ref pn)) none none none none none none none none) M3 := by
    show exec (Cn (n + 2)) (.asg (.name 4) (.call "_law_names" (.cons (.call "_law_cell" (.cons (.var 0) (.cons (.lit (.int 1)) .nil))) (.cons (.bin .add (.lit (.int 1)) (.idx (.var 3) (.lit (.int 0)))) .nil)))) _ _ = _
    have rc : run P true (n + 2) "_law_cell" [scriptD' ns, D.int 1] M2 = .ok (.int (ns.getD 1 0)) M2 := run_cell (n + 1) ns 1 M2
    simp only [x_asg, evalE, evalEs, R.bind, lE, List.getElem?_cons_zero, List.getElem?_cons_succ, rc, i0, G.bin, addD, rn, Out.of, asgT]
    rfl
  let pv := M3.length
  let ps := M3.length + 1
  let M4 : Mem := M3 ++ [Cell.dict []] ++ [Cell.lst []]
  have q3 : exec (Cn (n + 2)) (sget lB 3) (lE (some (scriptD' ns)) b1 b2 (some (.ref pd)) (some (.ref pn)) none none none none none none none none) M3 = .nx (lE (some (scriptD' ns)) b1 b2 (some (.ref pd)) (some (.ref pn)) (some (.ref pv)) none none none none none none none) (M3 ++ [Cell.dict []]) := rfl
  have q4 : exec (Cn (n + 2)) (sget lB 4) (lE (some (scriptD' ns)) b1 b2 (some (.ref pd)) (some (.ref pn)) (some (.ref pv)) none none none none none none none) (M3 ++ [Cell.dict []]) = .nx (gE (some (scriptD' ns)) b1 b2 pd pn pv ps none) M4 := by
    simp [sget, lB, f_law, lE, gE, x_asg, Out.of, evalE, evalEs, R.bind, frzIf, frz, newL, asgT, M4, ps]
  have hpd : pd < M3.length := (List.getElem?_eq_some_iff.mp hd3).1
  have hpn : pn < M3.length := (List.getElem?_eq_some_iff.mp hn3).1
  have Apt : Ap pd pn pv ps := ⟨by show M3.length ≠ pd; omega, by show M3.length ≠ pn; omega, by show M3.length ≠ M3.length + 1; omega, by show M3.length + 1 ≠ pd; omega, by show M3.length + 1 ≠ pn; omega⟩
  have I0 : Iv pd pn pv ps dl ms M4 [] [] (fun _ => none) := ⟨pre_get (pre_get hd3), pre_get (pre_get hn3), by simp [M4, pv], by simp [M4, ps, seenD], ⟨fun p hp => (by cases hp), fun p hp => (by cases hp)⟩, fun x v h => (by cases h), fun p hp => (by cases hp)⟩
  obtain ⟨a7, M5, kvs, seen, env, e5, I5, hsl⟩ := g_loop (n + 2) (s := some (scriptD' ns)) (b1 := b1) (b2 := b2) Apt (d17 (ns.getD 0 0)) hnd (by omega) ms.length 0 none M4 [] [] (fun _ => none) (by omega) I0 rfl (Nat.zero_le _)
  have q5 : exec (Cn (n + 2)) (sget lB 5) (gE (some (scriptD' ns)) b1 b2 pd pn pv ps none) M4 = .nx (gE (some (scriptD' ns)) b1 b2 pd pn pv ps a7) M5 := by
    show exec (Cn (n + 2)) (.for (.name 7) (.range (.cons (.blt .len (.cons (.var 4) .nil)) .nil)) gB) _ _ = _
    rw [x_for]
    have hw := walk_rng (C := Cn (n + 2)) (ev_len (C := Cn (n + 2)) (ρ := gE (some (scriptD' ns)) b1 b2 pd pn pv ps none) (M := M4) (pn := pn) rfl I0.hn) (by omega) (by omega)
    rw [rng_len] at hw
    rw [hw]
    exact e5
  let pk := M5.length
  let M6 : Mem := M5 ++ [Cell.dict kvs]
  have hv5 := I5.hv
  have q6 : exec (Cn (n + 2)) (sget lB 6) (gE (some (scriptD' ns)) b1 b2 pd pn pv ps a7) M5 = .nx (hE (some (scriptD' ns)) b1 pd pn pv ps pk b2 a7 none none none none) M6 := by
    simp [sget, lB, f_law, gE, lE, hE, x_asg, Out.of, evalE, evalEs, R.bind, blt, bDict, hv5, asgT, M6, pk]
  obtain ⟨js, hjs, hjl⟩ := cut_ints ns
  let M7 : Mem := M6 ++ [Cell.lst [.int 0, .int 1]] ++ [Cell.lst (js.map D.int)] ++ [Cell.lst ((0 :: 1 :: js).map D.int)]
  have hq7 : M7[M6.length + 2]? = some (.lst ((0 :: 1 :: js).map D.int)) := by simp [M7]
  have hvk : M6[pk]? = some (.dict kvs) := by simp [M6, pk]
  obtain ⟨ρ, M8, e7⟩ := h_loop (n + 2) (pd := pd) (pn := pn) (pv := pv) (ps := ps) (pk := pk) (s := some (scriptD' ns)) (a1 := b1) (fun μ => decide (getL μ (.ref (M6.length + 2)) = some ((0 :: 1 :: js).map D.int))) (by omega) I5.uq I5.en I5.se (Nat.le_trans (show seen.length ≤ 8 by omega) (by decide)) (0 :: 1 :: js) M7 b2 a7 none none none none
    (fun ν' => by simp only [getL, pre_get hq7, decide_true]) (pre_get (pre_get (pre_get (pre_get I5.hv)))) (pre_get (pre_get (pre_get hvk))) (pre_get (pre_get (pre_get (pre_get I5.hs))))
  have q7 : exec (Cn (n + 2)) (sget lB 7) (hE (some (scriptD' ns)) b1 pd pn pv ps pk b2 a7 none none none none) M6 = .nx ρ M8 := by
    show exec (Cn (n + 2)) (.for (.name 9) (.seq (.bin .add (.lst (.cons (.lit (.int 0)) (.cons (.lit (.int 1)) .nil))) (.slc (.var 0) (.some (.lit (.int 2))) .none))) hB) _ _ = _
    rw [x_for]
    have ev : evalE (Cn (n + 2)) (.bin .add (.lst (.cons (.lit (.int 0)) (.cons (.lit (.int 1)) .nil))) (.slc (.var 0) (.some (.lit (.int 2))) .none)) (hE (some (scriptD' ns)) b1 pd pn pv ps pk b2 a7 none none none none) M6 = .ok (.ref (M6.length + 2)) M7 := by
      have hL2 : 2 ≤ line := by decide
      have hjl2 : 2 + js.length ≤ line := Nat.le_trans (show 2 + js.length ≤ 65 by omega) (by decide)
      simp [evalE, evalEs, evalO, R.bind, frzIf, frz, frz1, newL, hL2, hE, scriptD', optInt, slice, hjs, G.bin, addD, addL, getL, hjl2, M7]
    have hw : walkI (Cn (n + 2)) (.seq (.bin .add (.lst (.cons (.lit (.int 0)) (.cons (.lit (.int 1)) .nil))) (.slc (.var 0) (.some (.lit (.int 2))) .none))) (hE (some (scriptD' ns)) b1 pd pn pv ps pk b2 a7 none none none none) M6 = .ok ⟨(0 :: 1 :: js).map D.int, fun μ => decide (getL μ (.ref (M6.length + 2)) = some ((0 :: 1 :: js).map D.int))⟩ M7 := by
      simp only [walkI, ev, R.bind, walkSeq, hq7, optW]
    rw [hw]
    exact e7
  have q8 : exec (Cn (n + 2)) (sget lB 8) ρ M8 = .rt (.bl true) M8 := rfl
  refine ⟨M8, ?_⟩
  rw [run_of (F := f_law) rfl]
  refine runFn_rt rfl rfl ?_
  have hb : lB = .cons (sget lB 0) (.cons (sget lB 1) (.cons (sget lB 2) (.cons (sget lB 3) (.cons (sget lB 4) (.cons (sget lB 5) (.cons (sget lB 6) (.cons (sget lB 7) (.cons (sget lB 8) .nil)))))))) := rfl
  show execs (Cn (n + 2)) lB (lE (some (scriptD' ns)) none none none none none none none none none none none none) [] = _
  rw [hb, execs_nx q0, execs_nx q1, execs_nx q2, execs_nx q3, execs_nx q4, execs_nx q5, execs_nx q6, execs_nx q7]
  exact execs_rt q8
end Pl
set_option maxHeartbeats 0
namespace Law
open PySem PySem.Spec PyProof.Rows L2 G Pl
/-! ### the text's defs -/
def top (i : Nat) : Stmt := PySem.Challenge.pw_seedbed_k01_values_and_fitted_numbers.main.body.getD i (.Pass ⟨0, 0, 0, 0⟩)
def dd (i : Nat) (x : PySem.Str) : He.DefD := ⟨(x, none), x, x, defArgs (top i), defBody (top i), defScope (top i), [], []⟩
def g_fitted : GD := ⟨dd 3 "fitted", "fitted", ["number"], ["number"]⟩
def g_applied : GD := ⟨dd 4 "applied", "applied", ["sign", "first", "second"], ["sign", "first", "second"]⟩
def g_value_of : GD := ⟨dd 5 "value_of", "value_of", ["expression", "values", "first"], ["expression", "values"]⟩
def g__law_cell : GD := ⟨dd 7 "_law_cell", "_law_cell", ["_law_script", "_law_k"], ["_law_script", "_law_k"]⟩
def g__law_draws : GD := ⟨dd 8 "_law_draws", "_law_draws", ["_law_cell_here", "_law_limits", "_law_found", "_law_rest", "_law_state", "_law_free", "_law_limit"], ["_law_cell_here", "_law_limits"]⟩
def g__law_reserved : GD := ⟨dd 9 "_law_reserved", "_law_reserved", ["_law_words"], []⟩
def g__law_names : GD := ⟨dd 10 "_law_names", "_law_names", ["_law_cell_here", "_law_count", "_law_reserved_here", "_law_letters", "_law_signs", "_law_names_here", "_law_k", "_law_draws_here", "_law_size", "_law_j", "_law_name", "_law_menu", ".0"], ["_law_cell_here", "_law_count"]⟩
def g__law_expr : GD := ⟨dd 11 "_law_expr", "_law_expr", ["_law_cell_here", "_law_kind", "_law_seen", "_law_depth", "_law_draws_here", "_law_fit", "_law_sign", ".0", "_law_pair"], ["_law_cell_here", "_law_kind", "_law_seen", "_law_depth"]⟩
def g__law_fitted : GD := ⟨dd 12 "_law_fitted", "_law_fitted", ["_law_number"], ["_law_number"]⟩
def g__law_worth : GD := ⟨dd 13 "_law_worth", "_law_worth", ["_law_expression", "_law_values", "_law_sign", "_law_first", "_law_second"], ["_law_expression", "_law_values"]⟩
def g_law : GD := ⟨dd 14 "law", "law", ["_law_script", "_law_number", "_law_actual", "_law_draws_here", "_law_names_here", "_law_values", "_law_seen", "_law_k", "_law_kept", "_law_cell_here", "_law_kind", "_law_expression", "_law_due"], ["_law_script"]⟩
def gs : List GD := [g_fitted, g_applied, g_value_of, g__law_cell, g__law_draws, g__law_reserved, g__law_names, g__law_expr, g__law_fitted, g__law_worth, g_law]
def ks : List Kon := [.int "LARGEST" (1000000000), .int "SPAN" (2000000001)]
theorem ok_fitted : g_fitted.Ok (tabOf gs ks) P := ⟨⟨rfl, rfl, rfl, by decide +kernel, rfl, by decide +kernel, by decide +kernel⟩, ⟨f_fitted, by kernel_rfl, by simp [P, fns, g_fitted]⟩, fun _ _ _ _ _ _ us hl => match us, hl with | [_], _ => rfl⟩
theorem ok_applied : g_applied.Ok (tabOf gs ks) P := ⟨⟨rfl, rfl, rfl, by decide +kernel, rfl, by decide +kernel, by decide +kernel⟩, ⟨f_applied, by kernel_rfl, by simp [P, fns, g_applied]⟩, fun _ _ _ _ _ _ us hl => match us, hl with | [_, _, _], _ => rfl⟩
theorem ok_value_of : g_value_of.Ok (tabOf gs ks) P := ⟨⟨rfl, rfl, rfl, by decide +kernel, rfl, by decide +kernel, by decide +kernel⟩, ⟨f_value_of, by kernel_rfl, by simp [P, fns, g_value_of]⟩, fun _ _ _ _ _ _ us hl => match us, hl with | [_, _], _ => rfl⟩
theorem ok__law_cell : g__law_cell.Ok (tabOf gs ks) P := ⟨⟨rfl, rfl, rfl, by decide +kernel, rfl, by decide +kernel, by decide +kernel⟩, ⟨f__law_cell, by kernel_rfl, by simp [P, fns, g__law_cell]⟩, fun _ _ _ _ _ _ us hl => match us, hl with | [_, _], _ => rfl⟩
theorem ok__law_draws : g__law_draws.Ok (tabOf gs ks) P := ⟨⟨rfl, rfl, rfl, by decide +kernel, rfl, by decide +kernel, by decide +kernel⟩, ⟨f__law_draws, by kernel_rfl, by simp [P, fns, g__law_draws]⟩, fun _ _ _ _ _ _ us hl => match us, hl with | [_, _], _ => rfl⟩
theorem ok__law_reserved : g__law_reserved.Ok (tabOf gs ks) P := ⟨⟨rfl, rfl, rfl, by decide +kernel, rfl, by decide +kernel, by decide +kernel⟩, ⟨f__law_reserved, by kernel_rfl, by simp [P, fns, g__law_reserved]⟩, fun _ _ _ _ _ _ us hl => match us, hl with | [], _ => rfl⟩
theorem ok__law_names : g__law_names.Ok (tabOf gs ks) P := ⟨⟨rfl, rfl, rfl, by decide +kernel, rfl, by decide +kernel, by decide +kernel⟩, ⟨f__law_names, by kernel_rfl, by simp [P, fns, g__law_names]⟩, fun _ _ _ _ _ _ us hl => match us, hl with | [_, _], _ => rfl⟩
theorem ok__law_expr : g__law_expr.Ok (tabOf gs ks) P := ⟨⟨rfl, rfl, rfl, by decide +kernel, rfl, by decide +kernel, by decide +kernel⟩, ⟨f__law_expr, by kernel_rfl, by simp [P, fns, g__law_expr]⟩, fun _ _ _ _ _ _ us hl => match us, hl with | [_, _, _, _], _ => rfl⟩
theorem ok__law_fitted : g__law_fitted.Ok (tabOf gs ks) P := ⟨⟨rfl, rfl, rfl, by decide +kernel, rfl, by decide +kernel, by decide +kernel⟩, ⟨f__law_fitted, by kernel_rfl, by simp [P, fns, g__law_fitted]⟩, fun _ _ _ _ _ _ us hl => match us, hl with | [_], _ => rfl⟩
theorem ok__law_worth : g__law_worth.Ok (tabOf gs ks) P := ⟨⟨rfl, rfl, rfl, by decide +kernel, rfl, by decide +kernel, by decide +kernel⟩, ⟨f__law_worth, by kernel_rfl, by simp [P, fns, g__law_worth]⟩, fun _ _ _ _ _ _ us hl => match us, hl with | [_, _], _ => rfl⟩
theorem ok_law : g_law.Ok (tabOf gs ks) P := ⟨⟨rfl, rfl, rfl, by decide +kernel, rfl, by decide +kernel, by decide +kernel⟩, ⟨f_law, by kernel_rfl, by simp [P, fns, g_law]⟩, fun _ _ _ _ _ _ us hl => match us, hl with | [_], _ => rfl⟩
theorem ok_all : ∀ g ∈ gs, g.Ok (tabOf gs ks) P := fun g hg => by
  simp only [gs, List.mem_cons, List.not_mem_nil, or_false] at hg
  rcases hg with rfl | rfl | rfl | rfl | rfl | rfl | rfl | rfl | rfl | rfl | rfl
  · exact ok_fitted
  · exact ok_applied
  · exact ok_value_of
  · exact ok__law_cell
  · exact ok__law_draws
  · exact ok__law_reserved
  · exact ok__law_names
  · exact ok__law_expr
  · exact ok__law_fitted
  · exact ok__law_worth
  · exact ok_law
theorem at_all : ∀ g ∈ gs, g.d.at_ = (g.d.name, none) ∧ g.d.dfl = [] ∧ g.d.kwd = [] := fun g hg => by
  simp only [gs, List.mem_cons, List.not_mem_nil, or_false] at hg
  rcases hg with rfl | rfl | rfl | rfl | rfl | rfl | rfl | rfl | rfl | rfl | rfl <;> exact ⟨rfl, rfl, rfl⟩
theorem short_all : ∀ x t, Kon.str x t ∈ ks → t.length ≤ line := fun x t h => by
  simp only [ks, List.mem_cons, List.not_mem_nil, or_false, Kon.str.injEq, reduceCtorEq, false_or] at h
/-! ### the head -/
abbrev R : PySem.W.OpenRow := PySem.W.OpenLaw.row PySem.Challenge.rw_seedbed_k01_values_and_fitted_numbers
abbrev hk : PySem.W.Hook := He.hookD 4 (faOf gs ks) (gs.map GD.d)
def ob (s : PySem.W.SharedT) : He.AlD := He.obsDG 4 (faOf gs ks) (gs.map GD.d) (HandSHeadRun.getT s)
theorem ob_eq (s : PySem.W.SharedT) : ob s = hk.obs s.abs := He.obsDG_eq (HandSHeadRun.getT_eq s)
def loose : List PySem.Str := (["LARGEST", "SPAN", "fitted", "applied", "value_of", "_law_cell", "_law_draws", "_law_reserved", "_law_names", "_law_expr", "_law_fitted", "_law_worth"] : List PySem.Str)
theorem run_eq (w : World) : HandSHeadRun.RunEq R (PySem.W.view R.prog [14]) hk ob 4000 loose w := by
  intro os
  kernel_rfl
end Law
namespace Law
theorem runs : G.Runs Pl.P true 200 "law" 63 := fun ns h _ => Pl.law_true 197 (by omega) ns h
end Law
open PySem PySem.W PySem.Calls PyProof.Rows
theorem PySem.Challenge.cw_seedbed_k01_values_and_fitted_numbers_holds : PySem.Challenge.rw_seedbed_k01_values_and_fitted_numbers.Holds := by
  w_on; o_law
  refine HandSHeadRun.head_any (r := OpenLaw.row PySem.Challenge.rw_seedbed_k01_values_and_fitted_numbers) (q := view (OpenLaw.row PySem.Challenge.rw_seedbed_k01_values_and_fitted_numbers).prog [14]) (H := Law.hk) (ob := Law.ob) (M := 4000) (loose := Law.loose) (d := HandSHeadRun.topDef (OpenLaw.row PySem.Challenge.rw_seedbed_k01_values_and_fitted_numbers).prog 14) (kwd := []) Law.ob_eq
    (by kernel_rfl) (fun s => by kernel_rfl) Law.run_eq (by kernel_rfl) (by kernel_rfl) (by kernel_rfl) (by rfl) (by first | assumption | decide +kernel) (by decide +kernel) ⟨rfl, rfl, rfl, rfl, rfl, by decide +kernel⟩ ?hw ?hc
  case hw => w_witness2
  case hc =>
    exact G.walk_G (l := PySem.Challenge.rw_seedbed_k01_values_and_fitted_numbers) (most := 63) (k := 200) (x := "_law_script") (gs := Law.gs) (ks := Law.ks) (P := Pl.P) (fr := true) (n := 4) (g := Law.g_law) rfl (by decide) (by kernel_rfl) ⟨⟨rfl, by decide, by decide⟩, rfl⟩ Law.ok_all Law.at_all Law.short_all (by simp [Law.gs]) (by kernel_rfl) rfl Law.runs
