import PyProof.Rows.All
import Wide.All
import OpenK.AllK
import Wide.FinOn
import HandS.ForMost
import HandS.ForExc
import HandS.IsInst
import HandS.Deep
import HandS.TupAny
import HandS.Wide
import KE.KEqDict
import HandS.RaiseMore
import HandS.More
import KE.SortData
import HandS.Flow
import HandS.Comp
import HandS.ExcOwn
import HandS.HeadEnd
import HandS.HeadHook2
import HandS.EndBits
import KE.KStateDown
import HandS.Head0
import HandS.Head1
import HandS.Head2
import PySem.Challenge.RW_seedbed_k65_circles_of_waits
/-! The G machine: a small interpreter of Python defs over plain data. No model in sight. -/
set_option Elab.async false
set_option linter.all false
namespace G
/-- a text -/
abbrev Tx := List Char
/-- data: lst is a list that is never changed any more; ref a list, dict or object in the store -/
inductive D where
  | non | bl (b : Bool) | int (i : Int) | str (x : Tx) | tup (ds : List D) | lst (ds : List D) | ref (k : Nat)
  deriving Inhabited, Repr
mutual
def D.beq : D → D → Bool
  | .non, .non => true
  | .bl a, .bl b => a == b
  | .int a, .int b => a == b
  | .str a, .str b => a == b
  | .tup a, .tup b => D.beqs a b
  | .lst a, .lst b => D.beqs a b
  | .ref a, .ref b => a == b
  | _, _ => false
def D.beqs : List D → List D → Bool
  | [], [] => true
  | a :: as, b :: bs => D.beq a b && D.beqs as bs
  | _, _ => false
end
mutual
theorem D.beq_eq : ∀ a b : D, D.beq a b = true → a = b
  | .non, b, h => by cases b <;> simp_all [D.beq]
  | .bl _, b, h => by cases b <;> simp_all [D.beq]
  | .int _, b, h => by cases b <;> simp_all [D.beq]
  | .str _, b, h => by cases b <;> simp_all [D.beq]
  | .ref _, b, h => by cases b <;> simp_all [D.beq]
  | .tup x, b, h => by
    cases b <;> simp only [D.beq, Bool.false_eq_true] at h
    rw [D.beqs_eq _ _ h]
  | .lst x, b, h => by
    cases b <;> simp only [D.beq, Bool.false_eq_true] at h
    rw [D.beqs_eq _ _ h]
theorem D.beqs_eq : ∀ a b : List D, D.beqs a b = true → a = b
  | [], [], _ => rfl
  | [], _ :: _, h => by simp [D.beqs] at h
  | _ :: _, [], h => by simp [D.beqs] at h
  | a :: as, b :: bs, h => by
    simp only [D.beqs, Bool.and_eq_true] at h
    rw [D.beq_eq a b h.1, D.beqs_eq as bs h.2]
end
mutual
theorem D.beq_self : ∀ a : D, D.beq a a = true
  | .non => by simp [D.beq]
  | .bl _ => by simp [D.beq]
  | .int _ => by simp [D.beq]
  | .str _ => by simp [D.beq]
  | .ref _ => by simp [D.beq]
  | .tup x => by simp only [D.beq]; exact D.beqs_self x
  | .lst x => by simp only [D.beq]; exact D.beqs_self x
theorem D.beqs_self : ∀ a : List D, D.beqs a a = true
  | [] => by simp [D.beqs]
  | a :: as => by simp only [D.beqs, D.beq_self a, D.beqs_self as, Bool.and_self]
end
instance : DecidableEq D := fun a b => match h : D.beq a b with
  | true => .isTrue (D.beq_eq a b h)
  | false => .isFalse fun e => by rw [e, D.beq_self b] at h; cases h
abbrev Key := Sum Int Tx
inductive Cell where
  | lst (ds : List D) | fz (ds : List D) | dict (kvs : List (Key × D)) | obj (c : String) (fs : List (String × D))
  deriving Inhabited, Repr, DecidableEq
abbrev Mem := List Cell
abbrev Env := List (Option D)
/-- what an expression gives -/
inductive R (α : Type) where
  | ok (a : α) (μ : Mem) | ex (c : String) (μ : Mem) | bad
/-- no exception is let out -/
def R.calm {α : Type} (r : R α) : R α := match r with
  | .ok a μ => .ok a μ
  | .ex _ _ => .bad
  | .bad => .bad
def R.bind {α β : Type} (r : R α) (f : α → Mem → R β) : R β := match r with
  | .ok a μ => f a μ
  | .ex c μ => .ex c μ
  | .bad => .bad
/-- what a statement gives -/
inductive Out where
  | nx (ρ : Env) (μ : Mem) | rt (d : D) (μ : Mem) | bk (ρ : Env) (μ : Mem) | ct (ρ : Env) (μ : Mem) | ex (c : String) (ρ : Env) (μ : Mem) | bad
/-- sizes -/
def line : Nat := 16777216
/-! ### views -/
def getL (μ : Mem) : D → Option (List D)
  | .lst ds => some ds
  | .ref k => match μ[k]? with
    | some (.lst ds) => some ds
    | some (.fz ds) => some ds
    | _ => none
  | _ => none
def getT : D → Option (List D)
  | .tup ds => some ds
  | _ => none
def getS (μ : Mem) (d : D) : Option (List D) := match d with
  | .tup ds => some ds
  | d => getL μ d
/-- a list is frozen: into a tuple or a list -/
def frz1 (d : D) (μ : Mem) : D × Mem := match d with
  | .ref k => match μ[k]? with
    | some (.lst ds) => (.lst ds, μ.set k (.fz ds))
    | some (.fz ds) => (.lst ds, μ)
    | _ => (d, μ)
  | d => (d, μ)
def frz : List D → Mem → List D × Mem
  | [], μ => ([], μ)
  | d :: ds, μ => ((frz1 d μ).1 :: (frz ds (frz1 d μ).2).1, (frz ds (frz1 d μ).2).2)
/-- a new list -/
def newL (ds : List D) (μ : Mem) : R D := .ok (.ref μ.length) (μ ++ [.lst ds])
/-! ### equality -/
mutual
def D.noref : D → Bool
  | .ref _ => false
  | .tup ds => D.norefs ds
  | .lst ds => D.norefs ds
  | _ => true
def D.norefs : List D → Bool
  | [] => true
  | d :: ds => D.noref d && D.norefs ds
end
mutual
def D.depth : D → Nat
  | .tup ds => D.depths ds + 1
  | .lst ds => D.depths ds + 1
  | _ => 0
def D.depths : List D → Nat
  | [] => 0
  | d :: ds => max (D.depth d) (D.depths ds)
end
def b2i (b : Bool) : Int := if b then 1 else 0
mutual
/-- == of Python -/
def D.eqv : D → D → Bool
  | .non, .non => true
  | .bl a, .bl b => a == b
  | .bl a, .int b => b2i a == b
  | .int a, .bl b => a == b2i b
  | .int a, .int b => a == b
  | .str a, .str b => a == b
  | .tup a, .tup b => D.eqvs a b
  | .lst a, .lst b => D.eqvs a b
  | _, _ => false
def D.eqvs : List D → List D → Bool
  | [], [] => true
  | a :: as, b :: bs => D.eqv a b && D.eqvs as bs
  | _, _ => false
end
/-- a list's own data -/
def look (μ : Mem) (d : D) : D := match d with
  | .ref k => match μ[k]? with
    | some (.lst ds) => .lst ds
    | some (.fz ds) => .lst ds
    | _ => d
  | d => d
def eqSeq (μ : Mem) (a b : D) : Option Bool :=
  if (look μ a).noref && (look μ b).noref && decide (min (look μ a).depth (look μ b).depth ≤ 64) then some ((look μ a).eqv (look μ b)) else none
def dictOf (μ : Mem) (d : D) : Option (List (Key × D)) := match d with
  | .ref k => match μ[k]? with
    | some (.dict kvs) => some kvs
    | _ => none
  | _ => none
def kGet (k : Key) : List (Key × D) → Option D
  | [] => none
  | (j, d) :: r => if j = k then some d else kGet k r
def valOk (μ : Mem) (d : D) : Bool := (look μ d).noref && decide ((look μ d).depth ≤ 60)
def eqPairs (μ : Mem) (kb : List (Key × D)) : List (Key × D) → Bool
  | [] => true
  | (k, d) :: r => match kGet k kb with
    | none => false
    | some e => (look μ d).eqv (look μ e) && eqPairs μ kb r
def eqD (μ : Mem) (a b : D) : Option Bool := match dictOf μ a with
  | some ka => match dictOf μ b with
    | some kb => if ka.all (fun p => valOk μ p.2) && kb.all (fun p => valOk μ p.2) then some (decide (ka.length = kb.length) && eqPairs μ kb ka) else none
    | none => none
  | none => eqSeq μ a b
/-! ### truth -/
def truth (μ : Mem) : D → Option Bool
  | .non => some false
  | .bl b => some b
  | .int i => some (i != 0)
  | .str x => some (!x.isEmpty)
  | .tup ds => some (!ds.isEmpty)
  | .lst ds => some (!ds.isEmpty)
  | .ref k => match μ[k]? with
    | some (.lst ds) => some (!ds.isEmpty)
    | some (.fz ds) => some (!ds.isEmpty)
    | some (.dict kvs) => some (!kvs.isEmpty)
    | _ => none
/-! ### operators -/
inductive Op where
  | add | sub | mul | fdiv | mod | pow | band
  deriving DecidableEq, Repr
inductive Cmp where
  | eq | ne | lt | le | gt | ge | isin | notin | isnone | notnone
  deriving DecidableEq, Repr
/-- (by natAbs: the kernel must not count down from the bound) -/
def small (i : Int) : Bool := decide (i.natAbs < 18446744073709551616)
def mulOk (i j : Int) : Bool := small i || small j
def addL (a b : D) (μ : Mem) : R D := match getL μ a with
  | some x => match getL μ b with
    | some y => if x.length + y.length ≤ line then newL (x ++ y) μ else .bad
    | none => .bad
  | none => .bad
def addD (a b : D) (μ : Mem) : R D := match a with
  | .int i => match b with
    | .int j => .ok (.int (i + j)) μ
    | _ => .bad
  | .str x => match b with
    | .str y => if x.length + y.length ≤ line then .ok (.str (x ++ y)) μ else .bad
    | _ => .bad
  | .tup x => match b with
    | .tup y => if x ≠ [] ∧ x.length + y.length ≤ line then .ok (.tup (x ++ y)) μ else .bad
    | _ => .bad
  | .lst x => addL (.lst x) b μ
  | .ref k => addL (.ref k) b μ
  | _ => .bad
/-- two ints -/
def ints2 (f : Int → Int → Option D) (a b : D) (μ : Mem) : R D := match a with
  | .int i => match b with
    | .int j => match f i j with
      | some d => .ok d μ
      | none => .bad
    | _ => .bad
  | _ => .bad
def mulL (a b : D) (μ : Mem) : R D := match b with
  | .int j => match getL μ a with
    | some x => if x.length * j.toNat ≤ line ∧ -(2 ^ 63) ≤ j ∧ j < 2 ^ 63 then newL ((List.replicate j.toNat x).flatten) μ else .bad
    | none => .bad
  | _ => .bad
def mulD (a b : D) (μ : Mem) : R D := match a with
  | .int i => match b with
    | .int j => if mulOk i j then .ok (.int (i * j)) μ else .bad
    | _ => .bad
  | .str x => match b with
    | .int j => if x.length * j.toNat ≤ line ∧ 0 ≤ j ∧ j < 2 ^ 62 then .ok (.str ((List.replicate j.toNat x).flatten)) μ else .bad
    | _ => .bad
  | .ref k => mulL (.ref k) b μ
  | _ => .bad
/-- i & j, j at least 0 -/
def bandI (i j : Int) : Int := if 0 ≤ i then ((i.toNat &&& j.toNat : Nat) : Int) else j - ((j.toNat &&& (-i - 1).toNat : Nat) : Int)
def bin (op : Op) (a b : D) (μ : Mem) : R D := match op with
  | .add => addD a b μ
  | .sub => ints2 (fun i j => some (.int (i - j))) a b μ
  | .mul => mulD a b μ
  | .fdiv => ints2 (fun i j => if 0 < j ∧ j < 18446744073709551616 then some (.int (i / j)) else none) a b μ
  | .mod => ints2 (fun i j => if 0 < j then some (.int (i % j)) else none) a b μ
  | .pow => ints2 (fun i j => if 0 ≤ j ∧ j ≤ 1000000 ∧ i.natAbs < 2 ^ 64 then some (.int (i ^ j.toNat)) else none) a b μ
  | .band => ints2 (fun i j => if 0 ≤ j then some (.int (bandI i j)) else none) a b μ
def neg (a : D) (μ : Mem) : R D := match a with
  | .int i => .ok (.int (-i)) μ
  | _ => .bad
/-- texts by their signs -/
def txLt : Tx → Tx → Bool
  | _, [] => false
  | [], _ :: _ => true
  | a :: as, b :: bs => decide (a < b) || (a == b && txLt as bs)
def flat : D → Bool
  | .non => true
  | .bl _ => true
  | .int _ => true
  | .str _ => true
  | _ => false
def keyOf : D → Option Key
  | .int i => some (.inl i)
  | .str x => some (.inr x)
  | _ => none
def kSet (k : Key) (d : D) : List (Key × D) → List (Key × D)
  | [] => []
  | (j, e) :: r => (if j = k then (j, d) else (j, e)) :: kSet k d r
def kPut (k : Key) (d : D) (kvs : List (Key × D)) : List (Key × D) := if (kGet k kvs).isSome then kSet k d kvs else kvs ++ [(k, d)]
def kDel (k : Key) : List (Key × D) → List (Key × D)
  | [] => []
  | (j, e) :: r => if j = k then kDel k r else (j, e) :: kDel k r
/-- is the data in it -/
def inD (μ : Mem) (a b : D) : Option Bool := match b with
  | .str y => match a with
    | .str [c] => some (y.contains c)
    | _ => none
  | .ref k => match μ[k]? with
    | some (.dict kvs) => match keyOf a with
      | some q => some (kGet q kvs).isSome
      | none => none
    | some (.lst ds) => if flat a && ds.all flat then some (ds.any fun d => d.eqv a) else none
    | some (.fz ds) => if flat a && ds.all flat then some (ds.any fun d => d.eqv a) else none
    | _ => none
  | .tup ds => if flat a && ds.all flat then some (ds.any fun d => d.eqv a) else none
  | .lst ds => if flat a && ds.all flat then some (ds.any fun d => d.eqv a) else none
  | _ => none
def cmpD (op : Cmp) (a b : D) (μ : Mem) : Option Bool := match op with
  | .eq => eqD μ a b
  | .ne => (eqD μ a b).map not
  | .lt => match a, b with
    | .int i, .int j => some (decide (i < j))
    | .str x, .str y => some (txLt x y)
    | _, _ => none
  | .gt => match a, b with
    | .int i, .int j => some (decide (j < i))
    | .str x, .str y => some (txLt y x)
    | _, _ => none
  | .le => match a, b with
    | .int i, .int j => some (decide (i ≤ j))
    | .str x, .str y => some (!txLt y x)
    | _, _ => none
  | .ge => match a, b with
    | .int i, .int j => some (decide (j ≤ i))
    | .str x, .str y => some (!txLt x y)
    | _, _ => none
  | .isin => inD μ a b
  | .notin => (inD μ a b).map not
  | .isnone => match b with
    | .non => some (match a with
      | .non => true
      | _ => false)
    | _ => none
  | .notnone => match b with
    | .non => some (match a with
      | .non => false
      | _ => true)
    | _ => none
def cmpR (op : Cmp) (a b : D) (μ : Mem) : R D := match cmpD op a b μ with
  | some c => .ok (.bl c) μ
  | none => .bad
/-! ### places and slices -/
def place (i : Int) (n : Nat) : Option Nat :=
  if 0 ≤ i then (if i < n then some i.toNat else none) else (if 0 ≤ i + n then some (i + n).toNat else none)
def at_ {α : Type} (xs : List α) (i : Int) : Option α := (place i xs.length).bind fun k => xs[k]?
def itemL (ds : List D) (i : D) (μ : Mem) : R D := match i with
  | .int i => match at_ ds i with
    | some d => .ok d μ
    | none => .bad
  | _ => .bad
def item (a i : D) (μ : Mem) : R D := match a with
  | .str x => match i with
    | .int i => match at_ x i with
      | some c => .ok (.str [c]) μ
      | none => .bad
    | _ => .bad
  | .tup ds => itemL ds i μ
  | .lst ds => itemL ds i μ
  | .ref k => match μ[k]? with
    | some (.lst ds) => itemL ds i μ
    | some (.fz ds) => itemL ds i μ
    | some (.dict kvs) => match keyOf i with
      | some q => match kGet q kvs with
        | some d => .ok d μ
        | none => .bad
      | none => .bad
    | _ => .bad
  | _ => .bad
/-- where a slice's bound lies -/
def bound (n : Nat) (i : Int) : Nat := if i < 0 then (i + n).toNat else min i.toNat n
def cut {α : Type} (xs : List α) (lo hi : Option Int) : List α :=
  let a := match lo with
    | none => 0
    | some i => bound xs.length i
  let b := match hi with
    | none => xs.length
    | some i => bound xs.length i
  (xs.take b).drop a
def slice (a : D) (lo hi : Option Int) (μ : Mem) : R D := match a with
  | .str x => .ok (.str (cut x lo hi)) μ
  | .tup ds => .ok (.tup (cut ds lo hi)) μ
  | .lst ds => newL (cut ds lo hi) μ
  | .ref k => match μ[k]? with
    | some (.lst ds) => newL (cut ds lo hi) μ
    | some (.fz ds) => newL (cut ds lo hi) μ
    | _ => .bad
  | _ => .bad
/-! ### names of built-ins -/
inductive B where
  | len | int | str | bool | abs | list | tuple | dict | repr | sorted | sum | min | max | any | all
  deriving DecidableEq, Repr
inductive M where
  | append | pop | clear | lindex | get | join | split | startswith | endswith
  deriving DecidableEq, Repr
/-- what the receiver must be -/
def recv (m : M) (μ : Mem) (d : D) : Bool := match m with
  | .append => (getL μ d).isSome
  | .pop => (getL μ d).isSome
  | .clear => (getL μ d).isSome
  | .lindex => (getL μ d).isSome
  | .get => match d with
    | .ref k => match μ[k]? with
      | some (.dict _) => true
      | _ => false
    | _ => false
  | _ => match d with
    | .str _ => true
    | _ => false
/-- types that isinstance asks about -/
inductive Ty where
  | int | bool | str | list | tuple
  deriving DecidableEq, Repr
def isTy (μ : Mem) (d : D) : Ty → Option Bool
  | .int => match d with
    | .int _ => some true
    | .bl _ => some true
    | .ref k => match μ[k]? with
      | some (.lst _) => some false
      | some (.fz _) => some false
      | _ => none
    | _ => some false
  | .bool => match d with
    | .bl _ => some true
    | .ref k => match μ[k]? with
      | some (.lst _) => some false
      | some (.fz _) => some false
      | _ => none
    | _ => some false
  | .str => match d with
    | .str _ => some true
    | .ref k => match μ[k]? with
      | some (.lst _) => some false
      | some (.fz _) => some false
      | _ => none
    | _ => some false
  | .tuple => match d with
    | .tup _ => some true
    | .ref k => match μ[k]? with
      | some (.lst _) => some false
      | some (.fz _) => some false
      | _ => none
    | _ => some false
  | .list => match d with
    | .lst _ => some true
    | .ref k => match μ[k]? with
      | some (.lst _) => some true
      | some (.fz _) => some true
      | _ => none
    | _ => some false

/-! ### built-in functions by their data -/
def intsOf : List D → Option (List Int)
  | [] => some []
  | .int i :: r => (intsOf r).map (i :: ·)
  | _ :: _ => none
def boolsOf : List D → Option (List Bool)
  | [] => some []
  | .bl i :: r => (boolsOf r).map (i :: ·)
  | _ :: _ => none
def textsOf : List D → Option (List Tx)
  | [] => some []
  | .str i :: r => (textsOf r).map (i :: ·)
  | _ :: _ => none
mutual
/-- data whose order is asked -/
def D.alike : D → D → Bool
  | .non, .non => true
  | .bl _, .bl _ => true
  | .int _, .int _ => true
  | .str _, .str _ => true
  | .lst a, .lst b => D.alikes a b
  | .tup a, .tup b => D.alikes a b
  | _, _ => false
def D.alikes : List D → List D → Bool
  | x :: xs, y :: ys => D.alike x y && D.alikes xs ys
  | [], _ => true
  | _ :: _, [] => true
end
mutual
/-- < of Python, of alike data -/
def D.lt : D → D → Bool
  | .bl a, .bl b => decide (b2i a < b2i b)
  | .int a, .int b => decide (a < b)
  | .str a, .str b => txLt a b
  | .lst a, .lst b => D.lts a b
  | .tup a, .tup b => D.lts a b
  | _, _ => false
def D.lts : List D → List D → Bool
  | [], [] => false
  | [], _ :: _ => true
  | _ :: _, [] => false
  | x :: xs, y :: ys => if D.eqv x y then D.lts xs ys else D.lt x y
end
def leD (a b : D) : Bool := !D.lt b a
def sortable (ds : List D) : Bool := ds.all (fun d => match d with
  | .tup (_ :: _) => true
  | _ => false) || ds.all (fun d => match d with
  | .non => false
  | .tup _ => false
  | _ => true)
def sortD (ds : List D) : Option (List D) := if ds.all (fun a => ds.all fun b => a.alike b) && sortable ds && ds.all (fun d => d.noref && decide (d.depth ≤ 60)) then some (ds.mergeSort leD) else none
def maxI : List Int → Option Int
  | [] => none
  | a :: r => some (r.foldl max a)
def minI : List Int → Option Int
  | [] => none
  | a :: r => some (r.foldl min a)
def textI (i : Int) : Tx := (toString i).toList
def fits (i : Int) : Bool := decide (i.natAbs < 2 ^ 1900)
/-- a number read from a text of digits -/
def digitsVal : Tx → Option Nat
  | x => if x ≠ [] ∧ x.all Char.isDigit then some (x.foldl (fun a c => 10 * a + (c.toNat - 48)) 0) else none
def intText (x : Tx) : Option Int := match x with
  | '-' :: r => (digitsVal r).map fun n => -(n : Int)
  | r => (digitsVal r).map fun n => (n : Int)
def joinT (sep : Tx) : List Tx → Tx
  | [] => []
  | [x] => x
  | x :: y :: r => x ++ sep ++ joinT sep (y :: r)
/-- split by one sign -/
def splitT (c : Char) : Tx → List Tx
  | [] => [[]]
  | a :: r => if a = c then [] :: splitT c r else match splitT c r with
    | [] => [[a]]
    | y :: ys => (a :: y) :: ys
def bLen (a : D) (μ : Mem) : R D := match a with
  | .str x => .ok (.int x.length) μ
  | .tup ds => .ok (.int ds.length) μ
  | .lst ds => .ok (.int ds.length) μ
  | .ref k => match μ[k]? with
    | some (.lst ds) => .ok (.int ds.length) μ
    | some (.fz ds) => .ok (.int ds.length) μ
    | some (.dict kvs) => .ok (.int kvs.length) μ
    | _ => .bad
  | _ => .bad
def bInt (a : D) (μ : Mem) : R D := match a with
  | .int i => .ok (.int i) μ
  | .bl b => .ok (.int (b2i b)) μ
  | _ => .bad
def bStr (a : D) (μ : Mem) : R D := match a with
  | .int i => if fits i then .ok (.str (textI i)) μ else .bad
  | .str x => .ok (.str x) μ
  | _ => .bad
def bBool (a : D) (μ : Mem) : R D := match a with
  | .int i => .ok (.bl (i != 0)) μ
  | .bl b => .ok (.bl b) μ
  | _ => .bad
def bAbs (a : D) (μ : Mem) : R D := match a with
  | .int i => .ok (.int (if i < 0 then -i else i)) μ
  | _ => .bad
def keyD : Key → D
  | .inl i => .int i
  | .inr x => .str x
def bList (a : D) (μ : Mem) : R D := match getS μ a with
  | some ds => newL ds μ
  | none => match a with
    | .ref k => match μ[k]? with
      | some (.dict kvs) => newL (kvs.map fun p => keyD p.1) μ
      | _ => .bad
    | _ => .bad
def bTuple (a : D) (μ : Mem) : R D := match a with
  | .tup ds => .ok (.tup ds) μ
  | .lst ds => .ok (.tup ds) μ
  | .ref k => match μ[k]? with
    | some (.lst ds) => .ok (.tup ds) μ
    | some (.fz ds) => .ok (.tup ds) μ
    | _ => .bad
  | _ => .bad
def bDict (a : D) (μ : Mem) : R D := match a with
  | .ref k => match μ[k]? with
    | some (.dict kvs) => .ok (.ref μ.length) (μ ++ [.dict kvs])
    | _ => .bad
  | _ => .bad
/-- a sign that stands as it is in a written text -/
def plainC (c : Char) : Bool := decide (32 ≤ c.toNat) && decide (c.toNat < 127) && decide (c.toNat ≠ 39) && decide (c.toNat ≠ 92)
mutual
/-- the written form -/
def reprT : D → Option Tx
  | .non => some ['N', 'o', 'n', 'e']
  | .bl b => some (if b then ['T', 'r', 'u', 'e'] else ['F', 'a', 'l', 's', 'e'])
  | .int i => if G.fits i then some (textI i) else none
  | .str x => if x.all plainC then some ('\'' :: (x ++ ['\''])) else none
  | .tup ds => (reprTs ds).map fun ts => '(' :: (joinT [',', ' '] ts ++ (if ts.length = 1 then [',', ')'] else [')']))
  | .lst ds => (reprTs ds).map fun ts => '[' :: (joinT [',', ' '] ts ++ [']'])
  | .ref _ => none
def reprTs : List D → Option (List Tx)
  | [] => some []
  | d :: ds => match reprT d, reprTs ds with
    | some t, some ts => some (t :: ts)
    | _, _ => none
end
def bRepr (a : D) (μ : Mem) : R D := match reprT (look μ a) with
  | some t => if t.length ≤ line ∧ (look μ a).depth ≤ 60 then .ok (.str t) μ else .bad
  | none => .bad
def bSorted (a : D) (μ : Mem) : R D := match getL μ a with
  | some ds => match sortD ds with
    | some es => newL es μ
    | none => .bad
  | none => .bad
/-- of a list of ints -/
def bInts (f : List Int → Option Int) (a : D) (μ : Mem) : R D := match getL μ a with
  | some ds => match intsOf ds with
    | some ns => match f ns with
      | some n => .ok (.int n) μ
      | none => .bad
    | none => .bad
  | none => .bad
def bBools (f : List Bool → Bool) (a : D) (μ : Mem) : R D := match getL μ a with
  | some ds => match boolsOf ds with
    | some bs => .ok (.bl (f bs)) μ
    | none => .bad
  | none => .bad
def blt (f : B) (as : List D) (μ : Mem) : R D := match f, as with
  | .len, [a] => bLen a μ
  | .int, [a] => bInt a μ
  | .str, [a] => bStr a μ
  | .bool, [a] => bBool a μ
  | .abs, [a] => bAbs a μ
  | .list, [a] => bList a μ
  | .tuple, [a] => bTuple a μ
  | .dict, [a] => bDict a μ
  | .repr, [a] => bRepr a μ
  | .sorted, [a] => bSorted a μ
  | .sum, [a] => bInts (fun ns => some ns.sum) a μ
  | .max, [a] => bInts maxI a μ
  | .min, [a] => bInts minI a μ
  | .max, [a, b] => ints2 (fun i j => some (.int (if j > i then j else i))) a b μ
  | .min, [a, b] => ints2 (fun i j => some (.int (if j < i then j else i))) a b μ
  | .any, [a] => bBools (fun bs => bs.any id) a μ
  | .all, [a] => bBools (fun bs => bs.all id) a μ
  | _, _ => .bad
/-- the first place of a flat one -/
def findIx (a : D) : List D → Nat → Option Nat
  | [], _ => none
  | d :: ds, n => if d.eqv a then some n else findIx a ds (n + 1)
/-- a method of a built-in type -/
def mAppend (fr : Bool) (o a : D) (μ : Mem) : R D := match o with
  | .ref k => match (if fr then frz1 a μ else (a, μ)).2[k]? with
    | some (.lst ds) => if ds.length < line then .ok .non ((if fr then frz1 a μ else (a, μ)).2.set k (.lst (ds ++ [(if fr then frz1 a μ else (a, μ)).1]))) else .bad
    | _ => .bad
  | _ => .bad
def mPop (o : D) (μ : Mem) : R D := match o with
  | .ref k => match μ[k]? with
    | some (.lst ds) => match ds[ds.length - 1]? with
      | some d => .ok d (μ.set k (.lst ds.dropLast))
      | none => .bad
    | _ => .bad
  | _ => .bad
def mPopAt (o i : D) (μ : Mem) : R D := match o with
  | .ref k => match μ[k]? with
    | some (.lst ds) => match i with
      | .int i => match place i ds.length with
        | some n => match ds[n]? with
          | some d => .ok d (μ.set k (.lst (ds.eraseIdx n)))
          | none => .bad
        | none => .bad
      | _ => .bad
    | _ => .bad
  | _ => .bad
def mClear (o : D) (μ : Mem) : R D := match o with
  | .ref k => match μ[k]? with
    | some (.lst _) => .ok .non (μ.set k (.lst []))
    | _ => .bad
  | _ => .bad
def mGet (o a b : D) (μ : Mem) : R D := match o with
  | .ref k => match μ[k]? with
    | some (.dict kvs) => match keyOf a with
      | some q => .ok ((kGet q kvs).getD b) μ
      | none => .bad
    | _ => .bad
  | _ => .bad
def mJoin (o a : D) (μ : Mem) : R D := match o with
  | .str s => match getS μ a with
    | some ds => match textsOf ds with
      | some ts => if (ts.map List.length).sum + ts.length * s.length ≤ line then .ok (.str (joinT s ts)) μ else .bad
      | none => .bad
    | none => .bad
  | _ => .bad
def mText (f : Tx → Tx → Bool) (o a : D) (μ : Mem) : R D := match o with
  | .str s => match a with
    | .str t => .ok (.bl (f s t)) μ
    | _ => .bad
  | _ => .bad
def mSplit (o a : D) (μ : Mem) : R D := match o with
  | .str s => match a with
    | .str [c] => if s.length + 2 ≤ line then newL ((splitT c s).map D.str) μ else .bad
    | _ => .bad
  | _ => .bad
def mIndex (o a : D) (μ : Mem) : R D := match getL μ o with
  | some ds => if flat a && ds.all flat then (match findIx a ds 0 with
    | some n => .ok (.int n) μ
    | none => .bad) else .bad
  | none => .bad
def bmeth (fr : Bool) (o : D) (m : M) (as : List D) (μ : Mem) : R D := match m, as with
  | .append, [a] => mAppend fr o a μ
  | .pop, [] => mPop o μ
  | .pop, [i] => mPopAt o i μ
  | .clear, [] => mClear o μ
  | .get, [a, b] => mGet o a b μ
  | .lindex, [a] => mIndex o a μ
  | .join, [a] => mJoin o a μ
  | .split, [a] => mSplit o a μ
  | .startswith, [a] => mText (fun s t => t.isPrefixOf s) o a μ
  | .endswith, [a] => mText (fun s t => t.isSuffixOf s) o a μ
  | _, _ => .bad
/-- o[i] = v -/
def store (fr : Bool) (o i v : D) (μ : Mem) : Option Mem := match o with
  | .ref k => match μ[k]? with
    | some (.lst _) => match i with
      | .int i => match (if fr then frz1 v μ else (v, μ)).2[k]? with
        | some (.lst ds) => match place i ds.length with
          | some n => some ((if fr then frz1 v μ else (v, μ)).2.set k (.lst (ds.set n (if fr then frz1 v μ else (v, μ)).1)))
          | none => none
        | _ => none
      | _ => none
    | some (.dict kvs) => match keyOf i with
      | some q => if kvs.length < line then some (μ.set k (.dict (kPut q v kvs))) else none
      | none => none
    | _ => none
  | _ => none
def delKey (o i : D) (μ : Mem) : Option Mem := match o with
  | .ref k => match μ[k]? with
    | some (.dict kvs) => match keyOf i with
      | some q => if (kGet q kvs).isSome then some (μ.set k (.dict (kDel q kvs))) else none
      | none => none
    | _ => none
  | _ => none
/-! ### the program -/
mutual
inductive E where
  | var (i : Nat)
  | lit (d : D)
  | bin (op : Op) (a b : E)
  | neg (a : E)
  | not (a : E)
  | cmp (op : Cmp) (a b : E)
  | chain (op op' : Cmp) (a b c : E)
  | and (a b : E)
  | or (a b : E)
  | ite (c a b : E)
  | tup (es : Es)
  | lst (es : Es)
  | dict (ps : Ps)
  | idx (a i : E)
  | slc (a : E) (lo hi : O)
  | lc (t : T) (i : I) (e : E) (cs : Es) (own : List Nat)
  | dc (t : T) (i : I) (k v : E) (own : List Nat)
  | call (f : String) (es : Es)
  | meth (o : E) (m : String) (es : Es)
  | new (c : String) (es : Es)
  | blt (f : B) (es : Es)
  | bm (o : E) (m : M) (es : Es)
  | attr (o : E) (f : String)
  | isi (a : E) (ts : List Ty)
inductive Es where
  | nil
  | cons (e : E) (r : Es)
/-- a display's pairs -/
inductive Ps where
  | nil
  | cons (k v : E) (r : Ps)
inductive O where
  | none
  | some (e : E)
/-- what is walked -/
inductive I where
  | seq (e : E)
  | range (es : Es)
  | enum (e : E)
  | zip (a b : E)
  | rev (e : E)
/-- targets -/
inductive T where
  | name (i : Nat)
  | tup (ts : Ts)
  | attr (o : E) (f : String)
  | sub (o i : E)
inductive Ts where
  | nil
  | cons (t : T) (r : Ts)
end
mutual
inductive S where
  | expr (e : E)
  | asg (t : T) (e : E)
  | augn (i : Nat) (op : Op) (e : E)
  | auga (o : E) (f : String) (op : Op) (e : E)
  | ret (e : E)
  | retn
  | ite (c : E) (a b : Ss)
  | whil (c : E) (b : Ss)
  | for (t : T) (i : I) (b : Ss)
  | brk
  | cont
  | pass
  | raise (c : String)
  | tryx (b : Ss) (c : String) (h : Ss)
  | del (o i : E)
inductive Ss where
  | nil
  | cons (s : S) (r : Ss)
end
/-- a def: its slots' number, its parameters' number, its body -/
structure Fn where
  slots : Nat
  params : Nat
  body : Ss
/-- around a def's body: calls, the loops' fuel, whether lists are frozen, what an except clause takes -/
structure Ctx where
  call : String → List D → Mem → R D
  w : Nat
  fr : Bool
  sub : String → String → Bool
def frzIf (b : Bool) (ds : List D) (μ : Mem) : List D × Mem := if b then frz ds μ else (ds, μ)
/-! ### walks -/
/-- a list that is walked: its items; it stands as long as it holds the same -/
structure Walk where
  items : List D
  keep : Mem → Bool
def walkSeq (μ : Mem) (d : D) : Option Walk := match d with
  | .tup ds => some ⟨ds, fun _ => true⟩
  | .lst ds => some ⟨ds, fun _ => true⟩
  | .str x => some ⟨x.map fun c => .str [c], fun _ => true⟩
  | .ref k => match μ[k]? with
    | some (.lst ds) => some ⟨ds, fun μ => decide (getL μ (.ref k) = some ds)⟩
    | some (.fz ds) => some ⟨ds, fun μ => decide (getL μ (.ref k) = some ds)⟩
    | _ => none
  | _ => none
def fits62 (i : Int) : Bool := decide (i.natAbs < 4611686018427387904)
def rangeL (lo hi : Int) : List D := (List.range (hi - lo).toNat).map fun (i : Nat) => D.int (lo + (i : Int))
def walkRange : List D → Option Walk
  | [.int n] => if fits62 n then some ⟨rangeL 0 n, fun _ => true⟩ else none
  | [.int a, .int b] => if fits62 a && fits62 b then some ⟨rangeL a b, fun _ => true⟩ else none
  | _ => none
def pairUp : List D → List D → List D
  | a :: as, b :: bs => .tup [a, b] :: pairUp as bs
  | _, _ => []
def numbered (n : Nat) : List D → List D
  | [] => []
  | d :: ds => .tup [.int n, d] :: numbered (n + 1) ds
def walkEnum (μ : Mem) (d : D) : Option Walk := match getL μ d with
  | some ds => some ⟨numbered 0 ds, fun μ => decide (getL μ d = some ds)⟩
  | none => none
def walkZip (μ : Mem) (a b : D) : Option Walk := match getL μ a, getL μ b with
  | some x, some y => some ⟨pairUp x y, fun μ => decide (getL μ a = some x) && decide (getL μ b = some y)⟩
  | _, _ => none
def walkRev (μ : Mem) (d : D) : Option Walk := match getL μ d with
  | some ds => some ⟨ds.reverse, fun μ => decide (getL μ d = some ds)⟩
  | none => none
def optW (o : Option Walk) (μ : Mem) : R Walk := match o with
  | some w => .ok w μ
  | none => .bad
def optR (o : Option D) (μ : Mem) : R D := match o with
  | some w => .ok w μ
  | none => .bad
def optB (o : Option Bool) (μ : Mem) : R Bool := match o with
  | some w => .ok w μ
  | none => .bad
/-- a comprehension's turns -/
def lcL (keep : Mem → Bool) (el : D → Mem → R (Option D)) (fr : Bool) : List D → List D → Mem → R (List D)
  | [], acc, μ => if keep μ then .ok acc μ else .bad
  | d :: ds, acc, μ => if keep μ then (el d μ).bind fun y μ2 => match y with
      | some y => if acc.length < line then lcL keep el fr ds (acc ++ [if fr then (frz1 y μ2).1 else y]) (if fr then (frz1 y μ2).2 else μ2) else .bad
      | none => lcL keep el fr ds acc μ2
    else .bad
def dcL (keep : Mem → Bool) (el : D → Mem → R (D × D)) : List D → List (Key × D) → Mem → R (List (Key × D))
  | [], acc, μ => if keep μ then .ok acc μ else .bad
  | d :: ds, acc, μ => if keep μ then (el d μ).bind fun y μ2 => match keyOf y.1 with
      | some q => if acc.length < line then dcL keep el ds (kPut q y.2 acc) μ2 else .bad
      | none => .bad
    else .bad
def wipeE (ρ : Env) : List Nat → Env
  | [] => ρ
  | i :: is => (wipeE ρ is).set i none
/-! ### objects -/
def getF (μ : Mem) (o : D) (f : String) : R D := match o with
  | .ref k => match μ[k]? with
    | some (.obj _ fs) => optR (fs.lookup f) μ
    | _ => .bad
  | _ => .bad
def putF (f : String) (d : D) : List (String × D) → List (String × D)
  | [] => [(f, d)]
  | (g, x) :: r => if g = f then (g, d) :: r else (g, x) :: putF f d r
def setF (μ : Mem) (o : D) (f : String) (d : D) : Option Mem := match o with
  | .ref k => match μ[k]? with
    | some (.obj c fs) => if fs.length < 999 then some (μ.set k (.obj c (putF f d fs))) else none
    | _ => none
  | _ => none
def clsOf (μ : Mem) (o : D) : Option String := match o with
  | .ref k => match μ[k]? with
    | some (.obj c _) => some c
    | _ => none
  | _ => none
def optInt (o : Option D) : Option (Option Int) := match o with
  | none => some none
  | some (.int i) => some (some i)
  | _ => none
def isTys (μ : Mem) (d : D) : List Ty → Option Bool
  | [] => some false
  | t :: ts => match isTy μ d t with
    | some true => some true
    | some false => isTys μ d ts
    | none => none
mutual
/-- a target of names alone -/
def bindT : T → D → Env → Option Env
  | .name i, d, ρ => some (ρ.set i (some d))
  | .tup ts, d, ρ => match getT d with
    | some ds => bindTs ts ds ρ
    | none => none
  | .attr _ _, _, _ => none
  | .sub _ _, _, _ => none
def bindTs : Ts → List D → Env → Option Env
  | .nil, ds, ρ => match ds with
    | [] => some ρ
    | _ :: _ => none
  | .cons t r, ds, ρ => match ds with
    | d :: ds => match bindT t d ρ with
      | some ρ1 => bindTs r ds ρ1
      | none => none
    | [] => none
end
/-! ### expressions -/
mutual
def evalE (C : Ctx) : E → Env → Mem → R D
  | .var i, ρ, μ => match ρ[i]? with
    | some (some d) => .ok d μ
    | _ => .bad
  | .lit d, _, μ => .ok d μ
  | .bin op a b, ρ, μ => (evalE C a ρ μ).bind fun x μ1 => (evalE C b ρ μ1).bind fun y μ2 => G.bin op x y μ2
  | .neg a, ρ, μ => (evalE C a ρ μ).bind G.neg
  | .not a, ρ, μ => (evalE C a ρ μ).bind fun x μ1 => match truth μ1 x with
    | some b => .ok (.bl (!b)) μ1
    | none => .bad
  | .cmp op a b, ρ, μ => (evalE C a ρ μ).bind fun x μ1 => (evalE C b ρ μ1).bind fun y μ2 => cmpR op x y μ2
  | .chain op op' a b c, ρ, μ => (evalE C a ρ μ).bind fun x μ1 => (evalE C b ρ μ1).bind fun y μ2 => match cmpD op x y μ2 with
    | some true => (evalE C c ρ μ2).bind fun z μ3 => cmpR op' y z μ3
    | some false => .ok (.bl false) μ2
    | none => .bad
  | .and a b, ρ, μ => (evalE C a ρ μ).bind fun x μ1 => match truth μ1 x with
    | some true => evalE C b ρ μ1
    | some false => .ok x μ1
    | none => .bad
  | .or a b, ρ, μ => (evalE C a ρ μ).bind fun x μ1 => match truth μ1 x with
    | some true => .ok x μ1
    | some false => evalE C b ρ μ1
    | none => .bad
  | .ite c a b, ρ, μ => (evalE C c ρ μ).bind fun x μ1 => match truth μ1 x with
    | some true => evalE C a ρ μ1
    | some false => evalE C b ρ μ1
    | none => .bad
  | .tup es, ρ, μ => (evalEs C es ρ μ).bind fun ds μ1 => if ds.length ≤ line then .ok (.tup (frzIf C.fr ds μ1).1) (frzIf C.fr ds μ1).2 else .bad
  | .lst es, ρ, μ => (evalEs C es ρ μ).bind fun ds μ1 => if ds.length ≤ line then newL (frzIf C.fr ds μ1).1 (frzIf C.fr ds μ1).2 else .bad
  | .dict ps, ρ, μ => (evalPs C ps ρ μ).bind fun kvs μ1 => .ok (.ref μ1.length) (μ1 ++ [.dict (kvs.foldl (fun acc p => kPut p.1 p.2 acc) [])])
  | .idx a i, ρ, μ => (evalE C a ρ μ).bind fun x μ1 => (evalE C i ρ μ1).bind fun y μ2 => item x y μ2
  | .slc a lo hi, ρ, μ => (evalE C a ρ μ).bind fun x μ1 => (evalO C lo ρ μ1).bind fun l μ2 => match optInt l with
    | some l => (evalO C hi ρ μ2).bind fun h μ3 => (match optInt h with
      | some h => slice x l h μ3
      | none => .bad)
    | none => .bad
  | .lc t i e cs own, ρ, μ => (walkI C i ρ μ).bind fun w μ1 => 
      (lcL w.keep (fun d μ2 => match bindT t d (wipeE ρ own) with
        | some ρ1 => (testEs C cs ρ1 μ2).bind fun b μ3 => if b then (evalE C e ρ1 μ3).bind fun y μ4 => .ok (some y) μ4 else .ok none μ3
        | none => .bad) C.fr w.items [] μ1).calm.bind newL
  | .dc t i k v own, ρ, μ => (walkI C i ρ μ).bind fun w μ1 => 
      (dcL w.keep (fun d μ2 => match bindT t d (wipeE ρ own) with
        | some ρ1 => (evalE C k ρ1 μ2).bind fun x μ3 => (evalE C v ρ1 μ3).bind fun y μ4 => .ok (x, y) μ4
        | none => .bad) w.items [] μ1).calm.bind fun kvs μ2 => .ok (.ref μ2.length) (μ2 ++ [.dict kvs])
  | .call f es, ρ, μ => (evalEs C es ρ μ).bind fun ds μ1 => C.call f ds μ1
  | .meth o m es, ρ, μ => (evalE C o ρ μ).bind fun x μ1 => match clsOf μ1 x with
    | some c => (evalEs C es ρ μ1).bind fun ds μ2 => C.call (c ++ "." ++ m) (x :: ds) μ2
    | none => .bad
  | .new c es, ρ, μ => (evalEs C es ρ μ).bind fun ds μ1 => (C.call (c ++ ".__init__") (.ref μ1.length :: ds) (μ1 ++ [.obj c []])).bind fun r μ2 => match r with
    | .non => .ok (.ref μ1.length) μ2
    | _ => .bad
  | .blt f es, ρ, μ => (evalEs C es ρ μ).bind fun ds μ1 => G.blt f ds μ1
  | .bm o m es, ρ, μ => (evalE C o ρ μ).bind fun x μ1 => if recv m μ1 x then (evalEs C es ρ μ1).bind fun ds μ2 => bmeth C.fr x m ds μ2 else .bad
  | .attr o f, ρ, μ => (evalE C o ρ μ).bind fun x μ1 => getF μ1 x f
  | .isi a ts, ρ, μ => (evalE C a ρ μ).bind fun x μ1 => match isTys μ1 x ts with
    | some b => .ok (.bl b) μ1
    | none => .bad
def evalEs (C : Ctx) : Es → Env → Mem → R (List D)
  | .nil, _, μ => .ok [] μ
  | .cons e r, ρ, μ => (evalE C e ρ μ).bind fun x μ1 => (evalEs C r ρ μ1).bind fun xs μ2 => .ok (x :: xs) μ2
def evalO (C : Ctx) : O → Env → Mem → R (Option D)
  | .none, _, μ => .ok none μ
  | .some e, ρ, μ => (evalE C e ρ μ).bind fun x μ1 => .ok (some x) μ1
def evalPs (C : Ctx) : Ps → Env → Mem → R (List (Key × D))
  | .nil, _, μ => .ok [] μ
  | .cons k v r, ρ, μ => (evalE C k ρ μ).bind fun x μ1 => (evalE C v ρ μ1).bind fun y μ2 => match keyOf x with
    | some q => (evalPs C r ρ μ2).bind fun xs μ3 => .ok ((q, y) :: xs) μ3
    | none => .bad
def testEs (C : Ctx) : Es → Env → Mem → R Bool
  | .nil, _, μ => .ok true μ
  | .cons e r, ρ, μ => (evalE C e ρ μ).bind fun x μ1 => match truth μ1 x with
    | some true => testEs C r ρ μ1
    | some false => .ok false μ1
    | none => .bad
def walkI (C : Ctx) : I → Env → Mem → R Walk
  | .seq e, ρ, μ => (evalE C e ρ μ).bind fun x μ1 => optW (walkSeq μ1 x) μ1
  | .range es, ρ, μ => (evalEs C es ρ μ).bind fun ds μ1 => optW (walkRange ds) μ1
  | .enum e, ρ, μ => (evalE C e ρ μ).bind fun x μ1 => optW (walkEnum μ1 x) μ1
  | .zip a b, ρ, μ => (evalE C a ρ μ).bind fun x μ1 => (evalE C b ρ μ1).bind fun y μ2 => optW (walkZip μ2 x y) μ2
  | .rev e, ρ, μ => (evalE C e ρ μ).bind fun x μ1 => optW (walkRev μ1 x) μ1
end
/-! ### statements -/
def Out.of (r : R D) (ρ : Env) (f : D → Mem → Out) : Out := match r with
  | .ok d μ => f d μ
  | .ex c μ => .ex c ρ μ
  | .bad => .bad
/-- a test's outcome -/
def Out.test (r : R D) (ρ : Env) (f : Bool → Mem → Out) : Out := match r with
  | .ok d μ => match truth μ d with
    | some b => f b μ
    | none => .bad
  | .ex c μ => .ex c ρ μ
  | .bad => .bad
def lenTs : Ts → Nat
  | .nil => 0
  | .cons _ r => lenTs r + 1
mutual
/-- d into a target -/
def asgT (C : Ctx) : T → D → Env → Mem → Out
  | .name i, d, ρ, μ => .nx (ρ.set i (some d)) μ
  | .tup ts, d, ρ, μ => match getT d with
    | some ds => if ds.length = lenTs ts then asgTs C ts ds ρ μ else .bad
    | none => .bad
  | .attr o f, d, ρ, μ => Out.of (evalE C o ρ μ) ρ fun x μ1 => match setF μ1 x f d with
    | some μ2 => .nx ρ μ2
    | none => .bad
  | .sub o i, d, ρ, μ => Out.of (evalE C o ρ μ) ρ fun x μ1 => Out.of (evalE C i ρ μ1) ρ fun y μ2 => match store C.fr x y d μ2 with
    | some μ3 => .nx ρ μ3
    | none => .bad
def asgTs (C : Ctx) : Ts → List D → Env → Mem → Out
  | .nil, ds, ρ, μ => match ds with
    | [] => .nx ρ μ
    | _ :: _ => .bad
  | .cons t r, ds, ρ, μ => match ds with
    | d :: ds => match asgT C t d ρ μ with
      | .nx ρ1 μ1 => asgTs C r ds ρ1 μ1
      | o => o
    | [] => .bad
end
def forL (keep : Mem → Bool) (step : D → Env → Mem → Out) : List D → Env → Mem → Out
  | [], ρ, μ => if keep μ then .nx ρ μ else .bad
  | d :: ds, ρ, μ => if keep μ then (match step d ρ μ with
    | .nx ρ1 μ1 => forL keep step ds ρ1 μ1
    | .ct ρ1 μ1 => forL keep step ds ρ1 μ1
    | .bk ρ1 μ1 => .nx ρ1 μ1
    | .rt d μ1 => .rt d μ1
    | .ex c ρ1 μ1 => .ex c ρ1 μ1
    | .bad => .bad) else .bad
def whileL (test : Env → Mem → R D) (step : Env → Mem → Out) : Nat → Env → Mem → Out
  | 0, _, _ => .bad
  | n + 1, ρ, μ => Out.test (test ρ μ) ρ fun b μ1 => if b then (match step ρ μ1 with
    | .nx ρ1 μ1 => whileL test step n ρ1 μ1
    | .ct ρ1 μ1 => whileL test step n ρ1 μ1
    | .bk ρ1 μ1 => .nx ρ1 μ1
    | .rt d μ1 => .rt d μ1
    | .ex c ρ1 μ1 => .ex c ρ1 μ1
    | .bad => .bad) else .nx ρ μ1
def Out.walk (r : R Walk) (ρ : Env) (f : Walk → Mem → Out) : Out := match r with
  | .ok d μ => f d μ
  | .ex c μ => .ex c ρ μ
  | .bad => .bad
mutual
def exec (C : Ctx) : S → Env → Mem → Out
  | .expr e, ρ, μ => Out.of (evalE C e ρ μ) ρ fun _ μ1 => .nx ρ μ1
  | .asg t e, ρ, μ => Out.of (evalE C e ρ μ) ρ fun d μ1 => asgT C t d ρ μ1
  | .augn i op e, ρ, μ => match ρ[i]? with
    | some (some x) => Out.of (evalE C e ρ μ) ρ fun y μ1 => match x, y with
      | .int _, .int _ => Out.of (G.bin op x y μ1) ρ fun d μ2 => .nx (ρ.set i (some d)) μ2
      | _, _ => .bad
    | _ => .bad
  | .auga o f op e, ρ, μ => Out.of (evalE C o ρ μ) ρ fun a μ1 => Out.of (getF μ1 a f) ρ fun x μ2 => Out.of (evalE C e ρ μ2) ρ fun y μ3 => match x, y with
    | .int _, .int _ => Out.of (G.bin op x y μ3) ρ fun d μ4 => match setF μ4 a f d with
      | some μ5 => .nx ρ μ5
      | none => .bad
    | _, _ => .bad
  | .ret e, ρ, μ => Out.of (evalE C e ρ μ) ρ fun d μ1 => .rt d μ1
  | .retn, _, μ => .rt .non μ
  | .ite c a b, ρ, μ => Out.test (evalE C c ρ μ) ρ fun t μ1 => if t then execs C a ρ μ1 else execs C b ρ μ1
  | .whil c b, ρ, μ => whileL (evalE C c) (execs C b) C.w ρ μ
  | .for t i b, ρ, μ => Out.walk (walkI C i ρ μ) ρ fun w μ1 => forL w.keep (fun d ρ1 μ2 => match bindT t d ρ1 with
    | some ρ2 => execs C b ρ2 μ2
    | none => .bad) w.items ρ μ1
  | .brk, ρ, μ => .bk ρ μ
  | .cont, ρ, μ => .ct ρ μ
  | .pass, ρ, μ => .nx ρ μ
  | .raise c, ρ, μ => .ex c ρ μ
  | .tryx b c h, ρ, μ => match execs C b ρ μ with
    | .ex e ρ1 μ1 => if C.sub e c then execs C h ρ1 μ1 else .ex e ρ1 μ1
    | o => o
  | .del o i, ρ, μ => Out.of (evalE C o ρ μ) ρ fun x μ1 => Out.of (evalE C i ρ μ1) ρ fun y μ2 => match delKey x y μ2 with
    | some μ3 => .nx ρ μ3
    | none => .bad
def execs (C : Ctx) : Ss → Env → Mem → Out
  | .nil, ρ, μ => .nx ρ μ
  | .cons s r, ρ, μ => match exec C s ρ μ with
    | .nx ρ1 μ1 => execs C r ρ1 μ1
    | o => o
end
/-! ### calls -/
/-- what is fixed for a whole run -/
structure Prog where
  fns : String → Option Fn
  w : Nat
  /-- in which defs lists that are put into lists or tuples are frozen -/
  fr : String → Bool
  sub : String → String → Bool
def runFn (C : Ctx) (F : Fn) (ds : List D) (μ : Mem) : R D :=
  if ds.length = F.params then (match execs C F.body (ds.map some ++ List.replicate (F.slots - ds.length) none) μ with
    | .nx _ μ1 => .ok .non μ1
    | .rt d μ1 => .ok d μ1
    | .ex c _ μ1 => .ex c μ1
    | _ => .bad) else .bad
/-- n calls deep, one in another -/
def run (P : Prog) : Nat → String → List D → Mem → R D
  | 0, _, _, _ => .bad
  | n + 1, f, ds, μ => match P.fns f with
    | some F => runFn ⟨run P n, P.w, P.fr f, P.sub⟩ F ds μ
    | none => .bad
end G
/-! The G machine: what is asked of a run's end, backwards. -/
set_option Elab.async false
set_option linter.all false
set_option maxRecDepth 100000
namespace G
abbrev EK := String → Mem → Prop
def R.wp {α : Type} (r : R α) (Q : α → Mem → Prop) (Z : EK) : Prop := match r with
  | .ok a μ => Q a μ
  | .ex c μ => Z c μ
  | .bad => False
structure Ks where
  nx : Env → Mem → Prop
  rt : D → Mem → Prop
  bk : Env → Mem → Prop
  ct : Env → Mem → Prop
  ex : String → Env → Mem → Prop
def Out.wp (o : Out) (K : Ks) : Prop := match o with
  | .nx ρ μ => K.nx ρ μ
  | .rt d μ => K.rt d μ
  | .bk ρ μ => K.bk ρ μ
  | .ct ρ μ => K.ct ρ μ
  | .ex c ρ μ => K.ex c ρ μ
  | .bad => False
theorem R.wp_congr {α : Type} {r r' : R α} {Q : α → Mem → Prop} {Z : EK} (h : r = r') : r.wp Q Z = r'.wp Q Z := by rw [h]
theorem Out.wp_congr {r r' : Out} {K : Ks} (h : r = r') : r.wp K = r'.wp K := by rw [h]
/-- a truth -/
def tst (o : Option Bool) (f : Bool → Prop) : Prop := match o with
  | some b => f b
  | none => False
theorem tst_congr {o o' : Option Bool} {f : Bool → Prop} (h : o = o') : tst o f = tst o' f := by rw [h]
@[simp] theorem tst_some (b : Bool) (f : Bool → Prop) : tst (some b) f = f b := rfl
/-- a bool -/
def bft (b : Bool) (p q : Prop) : Prop := match b with
  | true => p
  | false => q
theorem bft_congr {b b' : Bool} {p q : Prop} (h : b = b') : bft b p q = bft b' p q := by rw [h]
@[simp] theorem bft_t (p q : Prop) : bft true p q = p := rfl
@[simp] theorem bft_f (p q : Prop) : bft false p q = q := rfl
/-- an option -/
def opt {α : Type} (o : Option α) (f : α → Prop) : Prop := match o with
  | some a => f a
  | none => False
theorem opt_congr {α : Type} {o o' : Option α} {f : α → Prop} (h : o = o') : opt o f = opt o' f := by rw [h]
@[simp] theorem opt_some {α : Type} (a : α) (f : α → Prop) : opt (some a) f = f a := rfl
theorem bft_dec {p q : Prop} {c : Prop} [Decidable c] (h1 : c → p) (h2 : ¬c → q) : bft (decide c) p q := by
  by_cases h : c
  · rw [decide_eq_true h]; exact h1 h
  · rw [decide_eq_false h]; exact h2 h
theorem bft_of {p q : Prop} {b : Bool} (h1 : b = true → p) (h2 : b = false → q) : bft b p q := by
  cases b with
  | true => exact h1 rfl
  | false => exact h2 rfl
section
variable {α β : Type} {Q : α → Mem → Prop} {Z : EK} {C : Ctx} {ρ : Env} {μ : Mem} {K : Ks}
@[simp] theorem wp_ok (a : α) : (R.ok a μ).wp Q Z = Q a μ := rfl
@[simp] theorem wp_ex (c : String) : (R.ex c μ : R α).wp Q Z = Z c μ := rfl
@[simp] theorem wp_bad : (R.bad : R α).wp Q Z = False := rfl
@[simp] theorem wp_bind (r : R β) (f : β → Mem → R α) : (r.bind f).wp Q Z = r.wp (fun a μ => (f a μ).wp Q Z) Z := by cases r <;> rfl
theorem wp_mono {r : R α} {Q' : α → Mem → Prop} {Z' : EK} (h : r.wp Q Z) (hq : ∀ a μ, Q a μ → Q' a μ) (he : ∀ c μ, Z c μ → Z' c μ) : r.wp Q' Z' := by
  cases r with
  | ok a μ => exact hq _ _ h
  | ex c μ => exact he _ _ h
  | bad => exact h
theorem wp_calm (r : R α) : r.calm.wp Q Z = r.wp Q fun _ _ => False := by cases r <;> rfl
theorem wp_ite {c : Prop} [Decidable c] (a b : R α) : (if c then a else b).wp Q Z = if c then a.wp Q Z else b.wp Q Z := by split <;> rfl
theorem wp_eq {r : R α} {a : α} {μ : Mem} (h : r = .ok a μ) (q : Q a μ) : r.wp Q Z := by rw [h]; exact q
theorem wp_get {r : R α} (h : r.wp Q fun _ _ => False) : ∃ a μ, r = .ok a μ ∧ Q a μ := by
  cases r with
  | ok a μ => exact ⟨a, μ, rfl, h⟩
  | ex c μ => exact h.elim
  | bad => exact h.elim
/-! ### expressions -/
section
variable {Q : D → Mem → Prop}
@[simp] theorem we_var (i : Nat) : (evalE C (.var i) ρ μ).wp Q Z = opt (ρ[i]?) fun o => opt o fun d => Q d μ := by
  simp only [evalE]
  cases h : ρ[i]? with
  | none => simp [opt]
  | some o => cases o <;> simp [opt]
@[simp] theorem we_lit (d : D) : (evalE C (.lit d) ρ μ).wp Q Z = Q d μ := by simp only [evalE, wp_ok]
@[simp] theorem we_bin (op : Op) (a b : G.E) : (evalE C (.bin op a b) ρ μ).wp Q Z = (evalE C a ρ μ).wp (fun x μ1 => (evalE C b ρ μ1).wp (fun y μ2 => (G.bin op x y μ2).wp Q Z) Z) Z := by simp only [evalE, wp_bind]
@[simp] theorem we_neg (a : G.E) : (evalE C (.neg a) ρ μ).wp Q Z = (evalE C a ρ μ).wp (fun x μ1 => (G.neg x μ1).wp Q Z) Z := by simp only [evalE, wp_bind]
@[simp] theorem we_not (a : G.E) : (evalE C (.not a) ρ μ).wp Q Z = (evalE C a ρ μ).wp (fun x μ1 => tst (truth μ1 x) fun b => Q (.bl (!b)) μ1) Z := by
  simp only [evalE, wp_bind]
  congr; funext x μ1
  cases truth μ1 x <;> rfl
@[simp] theorem we_cmp (op : Cmp) (a b : G.E) : (evalE C (.cmp op a b) ρ μ).wp Q Z = (evalE C a ρ μ).wp (fun x μ1 => (evalE C b ρ μ1).wp (fun y μ2 => opt (cmpD op x y μ2) fun b => Q (.bl b) μ2) Z) Z := by
  simp only [evalE, wp_bind]
  congr; funext x μ1; congr; funext y μ2
  unfold cmpR
  cases cmpD op x y μ2 <;> rfl
@[simp] theorem we_chain (op op' : Cmp) (a b c : G.E) : (evalE C (.chain op op' a b c) ρ μ).wp Q Z = (evalE C a ρ μ).wp (fun x μ1 => (evalE C b ρ μ1).wp (fun y μ2 => opt (cmpD op x y μ2) fun t => bft t ((evalE C c ρ μ2).wp (fun z μ3 => opt (cmpD op' y z μ3) fun b => Q (.bl b) μ3) Z) (Q (.bl false) μ2)) Z) Z := by
  simp only [evalE, wp_bind]
  congr; funext x μ1; congr; funext y μ2
  cases h : cmpD op x y μ2 with
  | none => rfl
  | some t => cases t with
    | false => rfl
    | true =>
      simp only [wp_bind]
      show _ = (evalE C c ρ μ2).wp _ Z
      congr; funext z μ3
      unfold cmpR
      cases cmpD op' y z μ3 <;> rfl
@[simp] theorem we_and (a b : G.E) : (evalE C (.and a b) ρ μ).wp Q Z = (evalE C a ρ μ).wp (fun x μ1 => tst (truth μ1 x) fun t => bft t ((evalE C b ρ μ1).wp Q Z) (Q x μ1)) Z := by
  simp only [evalE, wp_bind]
  congr; funext x μ1
  cases truth μ1 x with
  | none => rfl
  | some b => cases b <;> rfl
@[simp] theorem we_or (a b : G.E) : (evalE C (.or a b) ρ μ).wp Q Z = (evalE C a ρ μ).wp (fun x μ1 => tst (truth μ1 x) fun t => bft t (Q x μ1) ((evalE C b ρ μ1).wp Q Z)) Z := by
  simp only [evalE, wp_bind]
  congr; funext x μ1
  cases truth μ1 x with
  | none => rfl
  | some b => cases b <;> rfl
@[simp] theorem we_ite (c a b : G.E) : (evalE C (.ite c a b) ρ μ).wp Q Z = (evalE C c ρ μ).wp (fun x μ1 => tst (truth μ1 x) fun t => bft t ((evalE C a ρ μ1).wp Q Z) ((evalE C b ρ μ1).wp Q Z)) Z := by
  simp only [evalE, wp_bind]
  congr; funext x μ1
  cases truth μ1 x with
  | none => rfl
  | some b => cases b <;> rfl
@[simp] theorem we_tup (es : Es) : (evalE C (.tup es) ρ μ).wp Q Z = (evalEs C es ρ μ).wp (fun ds μ1 => ds.length ≤ line ∧ Q (.tup (frzIf C.fr ds μ1).1) (frzIf C.fr ds μ1).2) Z := by
  simp only [evalE, wp_bind]
  congr; funext ds μ1
  split
  · next h => simp [h]
  · next h => simp [h]
@[simp] theorem we_lst (es : Es) : (evalE C (.lst es) ρ μ).wp Q Z = (evalEs C es ρ μ).wp (fun ds μ1 => ds.length ≤ line ∧ (newL (frzIf C.fr ds μ1).1 (frzIf C.fr ds μ1).2).wp Q Z) Z := by
  simp only [evalE, wp_bind]
  congr; funext ds μ1
  split
  · next h => simp [h]
  · next h => simp [h]
@[simp] theorem we_dict (ps : Ps) : (evalE C (.dict ps) ρ μ).wp Q Z = (evalPs C ps ρ μ).wp (fun kvs μ1 => Q (.ref μ1.length) (μ1 ++ [.dict (kvs.foldl (fun acc p => kPut p.1 p.2 acc) [])])) Z := by simp only [evalE, wp_bind, wp_ok]
@[simp] theorem we_idx (a i : G.E) : (evalE C (.idx a i) ρ μ).wp Q Z = (evalE C a ρ μ).wp (fun x μ1 => (evalE C i ρ μ1).wp (fun y μ2 => (item x y μ2).wp Q Z) Z) Z := by simp only [evalE, wp_bind]
@[simp] theorem we_slc (a : G.E) (lo hi : O) : (evalE C (.slc a lo hi) ρ μ).wp Q Z = (evalE C a ρ μ).wp (fun x μ1 => (evalO C lo ρ μ1).wp (fun l μ2 => opt (optInt l) fun l => (evalO C hi ρ μ2).wp (fun h μ3 => opt (optInt h) fun h => (slice x l h μ3).wp Q Z) Z) Z) Z := by
  simp only [evalE, wp_bind]
  congr; funext x μ1; congr; funext l μ2
  cases optInt l with
  | none => rfl
  | some l =>
    simp only [wp_bind, opt_some]
    congr; funext h μ3
    cases optInt h <;> rfl
/-- a turn of a comprehension -/
def elF (C : Ctx) (t : T) (cs : Es) (e : G.E) (ρ0 : Env) : D → Mem → R (Option D) := fun d μ2 => match bindT t d ρ0 with
  | some ρ1 => (testEs C cs ρ1 μ2).bind fun b μ3 => if b then (evalE C e ρ1 μ3).bind fun y μ4 => .ok (some y) μ4 else .ok none μ3
  | none => .bad
@[simp] theorem we_lc (t : T) (i : I) (e : G.E) (cs : Es) (own : List Nat) : (evalE C (.lc t i e cs own) ρ μ).wp Q Z = (walkI C i ρ μ).wp (fun w μ1 => (lcL w.keep (elF C t cs e (wipeE ρ own)) C.fr w.items [] μ1).wp (fun ds μ2 => (newL ds μ2).wp Q Z) fun _ _ => False) Z := by
  simp only [evalE, wp_bind, wp_calm]
  rfl
@[simp] theorem we_call (f : String) (es : Es) : (evalE C (.call f es) ρ μ).wp Q Z = (evalEs C es ρ μ).wp (fun ds μ1 => (C.call f ds μ1).wp Q Z) Z := by simp only [evalE, wp_bind]
@[simp] theorem we_meth (o : G.E) (m : String) (es : Es) : (evalE C (.meth o m es) ρ μ).wp Q Z = (evalE C o ρ μ).wp (fun x μ1 => opt (clsOf μ1 x) fun c => (evalEs C es ρ μ1).wp (fun ds μ2 => (C.call (c ++ "." ++ m) (x :: ds) μ2).wp Q Z) Z) Z := by
  simp only [evalE, wp_bind]
  congr; funext x μ1
  cases clsOf μ1 x with
  | none => rfl
  | some c => simp only [wp_bind, opt_some]
@[simp] theorem we_blt (f : B) (es : Es) : (evalE C (.blt f es) ρ μ).wp Q Z = (evalEs C es ρ μ).wp (fun ds μ1 => (G.blt f ds μ1).wp Q Z) Z := by simp only [evalE, wp_bind]
@[simp] theorem we_bm (o : G.E) (m : M) (es : Es) : (evalE C (.bm o m es) ρ μ).wp Q Z = (evalE C o ρ μ).wp (fun x μ1 => recv m μ1 x = true ∧ (evalEs C es ρ μ1).wp (fun ds μ2 => (bmeth C.fr x m ds μ2).wp Q Z) Z) Z := by
  simp only [evalE, wp_bind]
  congr; funext x μ1
  split
  · next h => simp [h]
  · next h => simp [h]
@[simp] theorem we_attr (o : G.E) (f : String) : (evalE C (.attr o f) ρ μ).wp Q Z = (evalE C o ρ μ).wp (fun x μ1 => (getF μ1 x f).wp Q Z) Z := by simp only [evalE, wp_bind]
@[simp] theorem we_isi (a : G.E) (ts : List Ty) : (evalE C (.isi a ts) ρ μ).wp Q Z = (evalE C a ρ μ).wp (fun x μ1 => opt (isTys μ1 x ts) fun b => Q (.bl b) μ1) Z := by
  simp only [evalE, wp_bind]
  congr; funext x μ1
  cases isTys μ1 x ts <;> rfl
end
@[simp] theorem wes_nil {Q : List D → Mem → Prop} : (evalEs C .nil ρ μ).wp Q Z = Q [] μ := by simp only [evalEs, wp_ok]
@[simp] theorem wes_cons {Q : List D → Mem → Prop} (e : G.E) (r : Es) : (evalEs C (.cons e r) ρ μ).wp Q Z = (evalE C e ρ μ).wp (fun x μ1 => (evalEs C r ρ μ1).wp (fun xs μ2 => Q (x :: xs) μ2) Z) Z := by simp only [evalEs, wp_bind, wp_ok]
@[simp] theorem weo_none {Q : Option D → Mem → Prop} : (evalO C .none ρ μ).wp Q Z = Q none μ := by simp only [evalO, wp_ok]
@[simp] theorem weo_some {Q : Option D → Mem → Prop} (e : G.E) : (evalO C (.some e) ρ μ).wp Q Z = (evalE C e ρ μ).wp (fun x μ1 => Q (some x) μ1) Z := by simp only [evalO, wp_bind, wp_ok]
@[simp] theorem wps_nil {Q : List (Key × D) → Mem → Prop} : (evalPs C .nil ρ μ).wp Q Z = Q [] μ := by simp only [evalPs, wp_ok]
@[simp] theorem wps_cons {Q : List (Key × D) → Mem → Prop} (k v : G.E) (r : Ps) : (evalPs C (.cons k v r) ρ μ).wp Q Z = (evalE C k ρ μ).wp (fun x μ1 => (evalE C v ρ μ1).wp (fun y μ2 => opt (keyOf x) fun q => (evalPs C r ρ μ2).wp (fun xs μ3 => Q ((q, y) :: xs) μ3) Z) Z) Z := by
  simp only [evalPs, wp_bind]
  congr; funext x μ1; congr; funext y μ2
  cases keyOf x with
  | none => rfl
  | some q => simp only [wp_bind, wp_ok, opt_some]
@[simp] theorem wt_nil {Q : Bool → Mem → Prop} : (testEs C .nil ρ μ).wp Q Z = Q true μ := by simp only [testEs, wp_ok]
@[simp] theorem wt_cons {Q : Bool → Mem → Prop} (e : G.E) (r : Es) : (testEs C (.cons e r) ρ μ).wp Q Z = (evalE C e ρ μ).wp (fun x μ1 => tst (truth μ1 x) fun t => bft t ((testEs C r ρ μ1).wp Q Z) (Q false μ1)) Z := by
  simp only [testEs, wp_bind]
  congr; funext x μ1
  cases truth μ1 x with
  | none => rfl
  | some b => cases b <;> rfl
section
variable {Q : Walk → Mem → Prop}
theorem wp_optW (o : Option Walk) : (optW o μ).wp Q Z = opt o fun w => Q w μ := by cases o <;> rfl
@[simp] theorem wi_seq (e : G.E) : (walkI C (.seq e) ρ μ).wp Q Z = (evalE C e ρ μ).wp (fun x μ1 => opt (walkSeq μ1 x) fun w => Q w μ1) Z := by simp only [walkI, wp_bind, wp_optW]
@[simp] theorem wi_range (es : Es) : (walkI C (.range es) ρ μ).wp Q Z = (evalEs C es ρ μ).wp (fun x μ1 => opt (walkRange x) fun w => Q w μ1) Z := by simp only [walkI, wp_bind, wp_optW]
@[simp] theorem wi_enum (e : G.E) : (walkI C (.enum e) ρ μ).wp Q Z = (evalE C e ρ μ).wp (fun x μ1 => opt (walkEnum μ1 x) fun w => Q w μ1) Z := by simp only [walkI, wp_bind, wp_optW]
@[simp] theorem wi_zip (a b : G.E) : (walkI C (.zip a b) ρ μ).wp Q Z = (evalE C a ρ μ).wp (fun x μ1 => (evalE C b ρ μ1).wp (fun y μ2 => opt (walkZip μ2 x y) fun w => Q w μ2) Z) Z := by simp only [walkI, wp_bind, wp_optW]
@[simp] theorem wi_rev (e : G.E) : (walkI C (.rev e) ρ μ).wp Q Z = (evalE C e ρ μ).wp (fun x μ1 => opt (walkRev μ1 x) fun w => Q w μ1) Z := by simp only [walkI, wp_bind, wp_optW]
end
/-! ### statements -/
@[simp] theorem wo_nx : (Out.nx ρ μ).wp K = K.nx ρ μ := rfl
@[simp] theorem wo_rt (d : D) : (Out.rt d μ).wp K = K.rt d μ := rfl
@[simp] theorem wo_bk : (Out.bk ρ μ).wp K = K.bk ρ μ := rfl
@[simp] theorem wo_ct : (Out.ct ρ μ).wp K = K.ct ρ μ := rfl
@[simp] theorem wo_ex (c : String) : (Out.ex c ρ μ).wp K = K.ex c ρ μ := rfl
@[simp] theorem wo_bad : (Out.bad).wp K = False := rfl
@[simp] theorem wo_of (r : R D) (f : D → Mem → Out) : (Out.of r ρ f).wp K = r.wp (fun d μ => (f d μ).wp K) fun c μ => K.ex c ρ μ := by cases r <;> rfl
@[simp] theorem wo_walk (r : R Walk) (f : Walk → Mem → Out) : (Out.walk r ρ f).wp K = r.wp (fun d μ => (f d μ).wp K) fun c μ => K.ex c ρ μ := by cases r <;> rfl
theorem wo_test (r : R D) (f : Bool → Mem → Out) : (Out.test r ρ f).wp K = r.wp (fun d μ => tst (truth μ d) fun b => (f b μ).wp K) fun c μ => K.ex c ρ μ := by
  cases r with
  | ok d μ => simp only [Out.test, wp_ok]; cases truth μ d <;> rfl
  | ex c μ => rfl
  | bad => rfl
@[simp] theorem ws_nil : (execs C .nil ρ μ).wp K = K.nx ρ μ := by simp only [execs, wo_nx]
theorem ws_cons (s : S) (r : Ss) : (execs C (.cons s r) ρ μ).wp K = (exec C s ρ μ).wp ⟨fun ρ1 μ1 => (execs C r ρ1 μ1).wp K, K.rt, K.bk, K.ct, K.ex⟩ := by
  simp only [execs]
  cases exec C s ρ μ <;> rfl
@[simp] theorem w_expr (e : G.E) : (exec C (.expr e) ρ μ).wp K = (evalE C e ρ μ).wp (fun _ μ1 => K.nx ρ μ1) fun c μ => K.ex c ρ μ := by simp only [exec, wo_of, wo_nx]
@[simp] theorem w_asg (t : T) (e : G.E) : (exec C (.asg t e) ρ μ).wp K = (evalE C e ρ μ).wp (fun d μ1 => (asgT C t d ρ μ1).wp K) fun c μ => K.ex c ρ μ := by simp only [exec, wo_of]
@[simp] theorem w_augn (i : Nat) (op : Op) (e : G.E) : (exec C (.augn i op e) ρ μ).wp K = opt (ρ[i]?) fun o => opt o fun x => (evalE C e ρ μ).wp (fun y μ1 => (match x, y with
      | .int _, .int _ => Out.of (G.bin op x y μ1) ρ fun d μ2 => .nx (ρ.set i (some d)) μ2
      | _, _ => .bad).wp K) fun c μ => K.ex c ρ μ := by
  simp only [exec]
  cases h : ρ[i]? with
  | none => simp [opt]
  | some o => cases o with
    | none => simp [opt]
    | some x =>
      simp only [wo_of, opt_some]
      try rfl
@[simp] theorem w_ret (e : G.E) : (exec C (.ret e) ρ μ).wp K = (evalE C e ρ μ).wp (fun d μ1 => K.rt d μ1) fun c μ => K.ex c ρ μ := by simp only [exec, wo_of, wo_rt]
@[simp] theorem w_retn : (exec C .retn ρ μ).wp K = K.rt .non μ := by simp only [exec, wo_rt]
@[simp] theorem w_ite (c : G.E) (a b : Ss) : (exec C (.ite c a b) ρ μ).wp K = (evalE C c ρ μ).wp (fun d μ1 => tst (truth μ1 d) fun t => bft t ((execs C a ρ μ1).wp K) ((execs C b ρ μ1).wp K)) fun c μ => K.ex c ρ μ := by
  simp only [exec, wo_test]
  congr; funext d μ1; congr; funext b
  cases b <;> rfl
@[simp] theorem w_brk : (exec C .brk ρ μ).wp K = K.bk ρ μ := by simp only [exec, wo_bk]
@[simp] theorem w_cont : (exec C .cont ρ μ).wp K = K.ct ρ μ := by simp only [exec, wo_ct]
@[simp] theorem w_pass : (exec C .pass ρ μ).wp K = K.nx ρ μ := by simp only [exec, wo_nx]
@[simp] theorem w_raise (c : String) : (exec C (.raise c) ρ μ).wp K = K.ex c ρ μ := by simp only [exec, wo_ex]
@[simp] theorem w_try (b : Ss) (c : String) (h : Ss) : (exec C (.tryx b c h) ρ μ).wp K = (execs C b ρ μ).wp ⟨K.nx, K.rt, K.bk, K.ct, fun e ρ1 μ1 => bft (C.sub e c) ((execs C h ρ1 μ1).wp K) (K.ex e ρ1 μ1)⟩ := by
  simp only [exec]
  cases execs C b ρ μ with
  | ex e ρ1 μ1 => simp only [wo_ex]; cases h : C.sub e c <;> simp
  | _ => rfl
/-- a turn of a loop -/
def stepF (C : Ctx) (t : T) (b : Ss) : D → Env → Mem → Out := fun d ρ1 μ2 => match bindT t d ρ1 with
  | some ρ2 => execs C b ρ2 μ2
  | none => .bad
@[simp] theorem w_for (t : T) (i : I) (b : Ss) : (exec C (.for t i b) ρ μ).wp K = (walkI C i ρ μ).wp (fun w μ1 => (forL w.keep (stepF C t b) w.items ρ μ1).wp K) fun c μ => K.ex c ρ μ := by
  simp only [exec, wo_walk]
  rfl
@[simp] theorem w_whil (c : G.E) (b : Ss) : (exec C (.whil c b) ρ μ).wp K = (whileL (evalE C c) (execs C b) C.w ρ μ).wp K := by simp only [exec]
@[simp] theorem w_stepF (t : T) (b : Ss) (d : D) : (stepF C t b d ρ μ).wp K = opt (bindT t d ρ) fun ρ2 => (execs C b ρ2 μ).wp K := by
  unfold stepF
  cases bindT t d ρ <;> rfl
@[simp] theorem w_elF {Q : Option D → Mem → Prop} (t : T) (cs : Es) (e : G.E) (d : D) : (elF C t cs e ρ d μ).wp Q Z = opt (bindT t d ρ) fun ρ1 => (testEs C cs ρ1 μ).wp (fun b μ3 => bft b ((evalE C e ρ1 μ3).wp (fun y μ4 => Q (some y) μ4) Z) (Q none μ3)) Z := by
  unfold elF
  cases bindT t d ρ with
  | none => rfl
  | some ρ1 =>
    simp only [wp_bind, opt_some]
    congr; funext b μ3
    cases b with
    | true => simp only [if_true, wp_bind, wp_ok, bft_t]
    | false => simp [wp_ok]
@[simp] theorem wa_name (i : Nat) (d : D) : (asgT C (.name i) d ρ μ).wp K = K.nx (ρ.set i (some d)) μ := by simp only [asgT, wo_nx]
@[simp] theorem wa_tup (ts : Ts) (d : D) : (asgT C (.tup ts) d ρ μ).wp K = opt (getT d) fun ds => ds.length = lenTs ts ∧ (asgTs C ts ds ρ μ).wp K := by
  simp only [asgT]
  cases getT d with
  | none => rfl
  | some ds =>
    simp only [opt_some]
    split
    · next h => simp [h]
    · next h => simp [h]
@[simp] theorem was_nil : (asgTs C .nil [] ρ μ).wp K = K.nx ρ μ := by simp only [asgTs, wo_nx]
@[simp] theorem was_cons (t : T) (r : Ts) (d : D) (ds : List D) : (asgTs C (.cons t r) (d :: ds) ρ μ).wp K = (asgT C t d ρ μ).wp ⟨fun ρ1 μ1 => (asgTs C r ds ρ1 μ1).wp K, K.rt, K.bk, K.ct, K.ex⟩ := by
  simp only [asgTs]
  cases asgT C t d ρ μ <;> rfl
@[simp] theorem wa_attr (o : G.E) (f : String) (d : D) : (asgT C (.attr o f) d ρ μ).wp K = (evalE C o ρ μ).wp (fun x μ1 => opt (setF μ1 x f d) fun μ2 => K.nx ρ μ2) fun c μ => K.ex c ρ μ := by
  simp only [asgT, wo_of]
  congr; funext x μ1
  cases setF μ1 x f d <;> rfl
@[simp] theorem wa_sub (o i : G.E) (d : D) : (asgT C (.sub o i) d ρ μ).wp K = (evalE C o ρ μ).wp (fun x μ1 => (evalE C i ρ μ1).wp (fun y μ2 => opt (store C.fr x y d μ2) fun μ3 => K.nx ρ μ3) fun c μ => K.ex c ρ μ) fun c μ => K.ex c ρ μ := by
  simp only [asgT, wo_of]
  congr; funext x μ1; congr; funext y μ2
  cases store C.fr x y d μ2 <;> rfl
@[simp] theorem w_del (o i : G.E) : (exec C (.del o i) ρ μ).wp K = (evalE C o ρ μ).wp (fun x μ1 => (evalE C i ρ μ1).wp (fun y μ2 => opt (delKey x y μ2) fun μ3 => K.nx ρ μ3) fun c μ => K.ex c ρ μ) fun c μ => K.ex c ρ μ := by
  simp only [exec, wo_of]
  congr; funext x μ1; congr; funext y μ2
  cases delKey x y μ2 <;> rfl
end
/-! ### loops -/
theorem wf_nil {keep : Mem → Bool} {step : D → Env → Mem → Out} {K : Ks} {ρ : Env} {μ : Mem} (hk : keep μ = true) : (forL keep step [] ρ μ).wp K = K.nx ρ μ := by simp only [forL, hk, if_true, wo_nx]
theorem wf_cons {keep : Mem → Bool} {step : D → Env → Mem → Out} {K : Ks} {ρ : Env} {μ : Mem} {d : D} {ds : List D} (hk : keep μ = true) : (forL keep step (d :: ds) ρ μ).wp K = (step d ρ μ).wp ⟨fun ρ1 μ1 => (forL keep step ds ρ1 μ1).wp K, K.rt, K.nx, fun ρ1 μ1 => (forL keep step ds ρ1 μ1).wp K, K.ex⟩ := by
  simp only [forL, hk, if_true]
  cases step d ρ μ <;> rfl
theorem wp_forL {keep : Mem → Bool} {step : D → Env → Mem → Out} {K : Ks} (Inv : List D → Env → Mem → Prop) (hk : ∀ ds ρ μ, Inv ds ρ μ → keep μ = true)
    (hs : ∀ d ds ρ μ, Inv (d :: ds) ρ μ → (step d ρ μ).wp ⟨Inv ds, K.rt, K.nx, Inv ds, K.ex⟩) (hd : ∀ ρ μ, Inv [] ρ μ → K.nx ρ μ) : ∀ {ds : List D} {ρ : Env} {μ : Mem}, Inv ds ρ μ → (forL keep step ds ρ μ).wp K
  | [], ρ, μ, h => by
    simp only [forL, hk _ _ _ h, if_true]
    exact hd _ _ h
  | d :: ds, ρ, μ, h => by
    simp only [forL, hk _ _ _ h, if_true]
    have q := hs _ _ _ _ h
    cases e : step d ρ μ with
    | nx ρ1 μ1 => rw [e] at q; exact wp_forL Inv hk hs hd q
    | ct ρ1 μ1 => rw [e] at q; exact wp_forL Inv hk hs hd q
    | bk ρ1 μ1 => rw [e] at q; exact q
    | rt d μ1 => rw [e] at q; exact q
    | ex c ρ1 μ1 => rw [e] at q; exact q
    | bad => rw [e] at q; exact q
theorem wp_whileL {test : Env → Mem → R D} {step : Env → Mem → Out} {K : Ks} (Inv : Nat → Env → Mem → Prop)
    (hs : ∀ m ρ μ, Inv m ρ μ → (test ρ μ).wp (fun d μ1 => tst (truth μ1 d) fun t => bft t ((step ρ μ1).wp ⟨fun ρ μ => ∃ m' < m, Inv m' ρ μ, K.rt, K.nx, fun ρ μ => ∃ m' < m, Inv m' ρ μ, K.ex⟩) (K.nx ρ μ1)) fun c μ => K.ex c ρ μ) : ∀ {n : Nat} {ρ : Env} {μ : Mem}, (∃ m < n, Inv m ρ μ) → (whileL test step n ρ μ).wp K
  | 0, _, _, ⟨_, h, _⟩ => by omega
  | n + 1, ρ, μ, ⟨m, hm, h⟩ => by
    simp only [whileL, wo_test]
    refine wp_mono (hs _ _ _ h) (fun d μ1 => ?_) fun c μ q => q
    cases truth μ1 d with
    | none => exact fun q => q
    | some t => cases t with
      | false => exact fun q => q
      | true =>
        intro q
        simp only [tst_some, bft_t] at q
        simp only [tst_some, if_true]
        cases e : step ρ μ1 with
        | nx ρ1 μ1 =>
          rw [e] at q
          obtain ⟨m', h1, h2⟩ := q
          exact wp_whileL Inv hs ⟨m', by omega, h2⟩
        | ct ρ1 μ1 =>
          rw [e] at q
          obtain ⟨m', h1, h2⟩ := q
          exact wp_whileL Inv hs ⟨m', by omega, h2⟩
        | bk ρ1 μ1 => rw [e] at q; exact q
        | rt d μ1 => rw [e] at q; exact q
        | ex c ρ1 μ1 => rw [e] at q; exact q
        | bad => rw [e] at q; exact q
theorem wp_lcL {keep : Mem → Bool} {el : D → Mem → R (Option D)} {fr : Bool} {Q : List D → Mem → Prop} {Z : EK} (Inv : List D → List D → Mem → Prop) (hk : ∀ ds acc μ, Inv ds acc μ → keep μ = true)
    (hs : ∀ d ds acc μ, Inv (d :: ds) acc μ → (el d μ).wp (fun y μ2 => match y with
      | some y => acc.length < line ∧ Inv ds (acc ++ [if fr then (frz1 y μ2).1 else y]) (if fr then (frz1 y μ2).2 else μ2)
      | none => Inv ds acc μ2) Z) (hd : ∀ acc μ, Inv [] acc μ → Q acc μ) : ∀ {ds acc : List D} {μ : Mem}, Inv ds acc μ → (lcL keep el fr ds acc μ).wp Q Z
  | [], acc, μ, h => by
    simp only [lcL, hk _ _ _ h, if_true]
    exact hd _ _ h
  | d :: ds, acc, μ, h => by
    simp only [lcL, hk _ _ _ h, if_true, wp_bind]
    refine wp_mono (hs _ _ _ _ h) (fun y μ2 q => ?_) fun c μ q => q
    cases y with
    | none => exact wp_lcL Inv hk hs hd q
    | some y =>
      simp only [q.1, if_true]
      exact wp_lcL Inv hk hs hd q.2
/-- frozen data stays as it is -/
def D.cold : D → Bool
  | .ref _ => false
  | _ => true
theorem frz1_cold {d : D} (h : d.cold = true) (μ : Mem) : frz1 d μ = (d, μ) := by cases d <;> first | rfl | cases h
theorem frz_cold : ∀ {ds : List D} (h : ∀ d ∈ ds, d.cold = true) (μ : Mem), frz ds μ = (ds, μ)
  | [], _, _ => rfl
  | d :: ds, h, μ => by
    simp only [frz, frz1_cold (h d List.mem_cons_self), frz_cold fun d hd => h d (List.mem_cons_of_mem _ hd)]
/-- a comprehension that leaves the store -/
theorem wp_lcP {keep : Mem → Bool} {el : D → Mem → R (Option D)} {fr : Bool} {μ : Mem} (g : D → Option D) (hk : keep μ = true) : ∀ {ds acc : List D}, (∀ d ∈ ds, el d μ = .ok (g d) μ) → (∀ d ∈ ds, ∀ y, g d = some y → y.cold = true) → acc.length + ds.length ≤ line →
    lcL keep el fr ds acc μ = .ok (acc ++ ds.filterMap g) μ
  | [], acc, _, _, _ => by simp [lcL, hk]
  | d :: ds, acc, h, hc, hl => by
    simp only [lcL, hk, if_true, h d List.mem_cons_self, R.bind]
    have h' : ∀ d ∈ ds, el d μ = .ok (g d) μ := fun d hd => h d (List.mem_cons_of_mem _ hd)
    have hc' : ∀ d ∈ ds, ∀ y, g d = some y → y.cold = true := fun d hd => hc d (List.mem_cons_of_mem _ hd)
    simp only [List.length_cons] at hl
    cases e : g d with
    | none =>
      simp only []
      rw [wp_lcP g hk h' hc' (by omega), List.filterMap_cons, e]
    | some y =>
      have hy := frz1_cold (hc d List.mem_cons_self y e) μ
      have hl2 : acc.length < line := by omega
      simp only [hl2, if_true, hy, ite_self]
      rw [wp_lcP g hk h' hc' (by simp only [List.length_append, List.length_cons, List.length_nil]; omega), List.filterMap_cons, e]
      simp
/-! ### calls -/
theorem wp_run {P : Prog} {n : Nat} {f : String} {F : Fn} {ds : List D} {μ : Mem} {Q : D → Mem → Prop} {Z : EK} (h : P.fns f = some F) (hl : ds.length = F.params)
    (hw : (execs ⟨run P n, P.w, P.fr f, P.sub⟩ F.body (ds.map some ++ List.replicate (F.slots - ds.length) none) μ).wp ⟨fun _ μ => Q .non μ, Q, fun _ _ => False, fun _ _ => False, fun c _ μ => Z c μ⟩) : (run P (n + 1) f ds μ).wp Q Z := by
  simp only [run, h, runFn, hl, if_true]
  rw [hl] at hw
  revert hw
  cases execs ⟨run P n, P.w, P.fr f, P.sub⟩ F.body (ds.map some ++ List.replicate (F.slots - F.params) none) μ <;> exact fun q => q
/-! ### the store -/
/-- all that stands stays -/
def Keep (μ μ' : Mem) : Prop := ∀ (k : Nat) (c : Cell), μ[k]? = some c → μ'[k]? = some c
/-- all that stands stays, but at these -/
structure KeepX (F : Nat → Prop) (μ μ' : Mem) : Prop where
  at_ : ∀ (k : Nat) (c : Cell), ¬ F k → μ[k]? = some c → μ'[k]? = some c
  len : μ.length ≤ μ'.length
theorem Keep.refl (μ : Mem) : Keep μ μ := fun _ _ h => h
theorem Keep.trans {a b c : Mem} (h : Keep a b) (g : Keep b c) : Keep a c := fun k x e => g k x (h k x e)
theorem get_lt {μ : Mem} {k : Nat} {c : Cell} (h : μ[k]? = some c) : k < μ.length := (List.getElem?_eq_some_iff.mp h).1
theorem Keep.app (μ ν : Mem) : Keep μ (μ ++ ν) := fun k c h => by rw [List.getElem?_append_left (get_lt h), h]
theorem Keep.len {a b : Mem} (h : Keep a b) : a.length ≤ b.length := by
  cases e : a.length with
  | zero => exact Nat.zero_le _
  | succ n =>
    have h1 : a[n]? = some a[n] := List.getElem?_eq_getElem (by omega)
    exact get_lt (h _ _ h1)
theorem get_new (μ : Mem) (c : Cell) : (μ ++ [c])[μ.length]? = some c := by simp
theorem KeepX.refl (F : Nat → Prop) (μ : Mem) : KeepX F μ μ := ⟨fun _ _ _ h => h, Nat.le_refl _⟩
theorem KeepX.trans {F : Nat → Prop} {a b c : Mem} (h : KeepX F a b) (g : KeepX F b c) : KeepX F a c := ⟨fun k x n e => g.at_ k x n (h.at_ k x n e), Nat.le_trans h.len g.len⟩
theorem Keep.x {F : Nat → Prop} {a b : Mem} (h : Keep a b) : KeepX F a b := ⟨fun k x _ e => h k x e, h.len⟩
theorem KeepX.mono {F F' : Nat → Prop} {a b : Mem} (h : KeepX F a b) (g : ∀ k, F k → F' k) : KeepX F' a b := ⟨fun k x n e => h.at_ k x (fun q => n (g k q)) e, h.len⟩
theorem KeepX.set {F : Nat → Prop} {μ : Mem} {k : Nat} {c : Cell} (h : F k) : KeepX F μ (μ.set k c) := ⟨fun j x n e => by rw [List.getElem?_set_ne (fun q => n (by rw [← q]; exact h)), e], by rw [List.length_set]; exact Nat.le_refl _⟩
/-- what is kept beyond the old length is all -/
theorem KeepX.keep {μ μ' μ'' : Mem} (h : Keep μ μ') (g : KeepX (fun k => μ.length ≤ k) μ' μ'') : Keep μ μ'' := fun k c e => g.at_ k c (fun q => absurd (get_lt e) (by omega)) (h k c e)
theorem get_set {μ : Mem} {k : Nat} {c x : Cell} (h : μ[k]? = some x) : (μ.set k c)[k]? = some c := List.getElem?_set_self (get_lt h)
theorem wp_newL {ds : List D} {μ : Mem} {Q : D → Mem → Prop} {Z : EK} (h : ∀ k μ', Keep μ μ' → k = μ.length → μ'[k]? = some (.lst ds) → μ' = μ ++ [.lst ds] → Q (.ref k) μ') : (newL ds μ).wp Q Z := h _ _ (Keep.app μ _) rfl (get_new μ _) rfl
/-! ### small facts -/
@[simp] theorem frz1_int (i : Int) (μ : Mem) : frz1 (.int i) μ = (.int i, μ) := rfl
@[simp] theorem frz1_str (i : Tx) (μ : Mem) : frz1 (.str i) μ = (.str i, μ) := rfl
@[simp] theorem frz1_bl (i : Bool) (μ : Mem) : frz1 (.bl i) μ = (.bl i, μ) := rfl
@[simp] theorem frz1_non (μ : Mem) : frz1 .non μ = (.non, μ) := rfl
@[simp] theorem frz1_tup (i : List D) (μ : Mem) : frz1 (.tup i) μ = (.tup i, μ) := rfl
@[simp] theorem frz1_lst (i : List D) (μ : Mem) : frz1 (.lst i) μ = (.lst i, μ) := rfl
theorem frz1_ref {k : Nat} {ds : List D} {μ : Mem} (h : μ[k]? = some (.lst ds)) : frz1 (.ref k) μ = (.lst ds, μ.set k (.fz ds)) := by simp only [frz1, h]
theorem le_line {n : Nat} (h : n ≤ 100000) : n ≤ line := Nat.le_trans h (by decide)
theorem lt_line {n : Nat} (h : n ≤ 100000) : n < line := Nat.lt_of_le_of_lt h (by decide)
section
variable {μ : Mem}
@[simp] theorem cmp_lt (a b : Int) : cmpD .lt (.int a) (.int b) μ = some (decide (a < b)) := rfl
@[simp] theorem cmp_le (a b : Int) : cmpD .le (.int a) (.int b) μ = some (decide (a ≤ b)) := rfl
@[simp] theorem cmp_gt (a b : Int) : cmpD .gt (.int a) (.int b) μ = some (decide (b < a)) := rfl
@[simp] theorem cmp_ge (a b : Int) : cmpD .ge (.int a) (.int b) μ = some (decide (b ≤ a)) := rfl
@[simp] theorem cmp_ltS (a b : Tx) : cmpD .lt (.str a) (.str b) μ = some (txLt a b) := rfl
@[simp] theorem cmp_gtS (a b : Tx) : cmpD .gt (.str a) (.str b) μ = some (txLt b a) := rfl
@[simp] theorem cmp_leS (a b : Tx) : cmpD .le (.str a) (.str b) μ = some (!txLt b a) := rfl
@[simp] theorem cmp_geS (a b : Tx) : cmpD .ge (.str a) (.str b) μ = some (!txLt a b) := rfl
@[simp] theorem cmp_in (a b : D) : cmpD .isin a b μ = inD μ a b := rfl
@[simp] theorem cmp_notin (a b : D) : cmpD .notin a b μ = (inD μ a b).map not := rfl
@[simp] theorem cmp_isnone (a : D) : cmpD .isnone a .non μ = some (match a with
  | .non => true
  | _ => false) := rfl
@[simp] theorem cmp_notnone (a : D) : cmpD .notnone a .non μ = some (match a with
  | .non => false
  | _ => true) := rfl
@[simp] theorem cmp_eqI (a b : Int) : cmpD .eq (.int a) (.int b) μ = some (decide (a = b)) := by
  have : (D.int a).eqv (.int b) = decide (a = b) := by simp only [D.eqv]; rfl
  simp only [cmpD, eqD, dictOf, eqSeq, look, D.noref, D.depth, this]
  rfl
@[simp] theorem cmp_eqS (a b : Tx) : cmpD .eq (.str a) (.str b) μ = some (decide (a = b)) := by
  have : (D.str a).eqv (.str b) = decide (a = b) := by simp only [D.eqv]; rw [Bool.eq_iff_iff]; simp
  simp only [cmpD, eqD, dictOf, eqSeq, look, D.noref, D.depth, this]
  rfl
@[simp] theorem cmp_eqB (a b : Bool) : cmpD .eq (.bl a) (.bl b) μ = some (a == b) := by
  simp only [cmpD, eqD, dictOf, eqSeq, look, D.noref, D.depth, D.eqv]
  rfl
@[simp] theorem cmp_neI (a b : Int) : cmpD .ne (.int a) (.int b) μ = some (!decide (a = b)) := by
  show (cmpD .eq (.int a) (.int b) μ).map not = _
  rw [cmp_eqI]; rfl
@[simp] theorem cmp_neS (a b : Tx) : cmpD .ne (.str a) (.str b) μ = some (!decide (a = b)) := by
  show (cmpD .eq (.str a) (.str b) μ).map not = _
  rw [cmp_eqS]; rfl
@[simp] theorem cmp_neB (a b : Bool) : cmpD .ne (.bl a) (.bl b) μ = some (!(a == b)) := by
  show (cmpD .eq (.bl a) (.bl b) μ).map not = _
  rw [cmp_eqB]; rfl
@[simp] theorem truth_bl (b : Bool) : truth μ (.bl b) = some b := rfl
@[simp] theorem truth_int (i : Int) : truth μ (.int i) = some (i != 0) := rfl
@[simp] theorem truth_str (x : Tx) : truth μ (.str x) = some (!x.isEmpty) := rfl
@[simp] theorem truth_non : truth μ .non = some false := rfl
@[simp] theorem truth_tup (x : List D) : truth μ (.tup x) = some (!x.isEmpty) := rfl
@[simp] theorem truth_lst (x : List D) : truth μ (.lst x) = some (!x.isEmpty) := rfl
theorem truth_ref {k : Nat} {ds : List D} (h : μ[k]? = some (.lst ds)) : truth μ (.ref k) = some (!ds.isEmpty) := by simp only [truth, h]
theorem getL_ref {k : Nat} {ds : List D} (h : μ[k]? = some (.lst ds)) : getL μ (.ref k) = some ds := by simp only [getL, h]
theorem getL_fz {k : Nat} {ds : List D} (h : μ[k]? = some (.fz ds)) : getL μ (.ref k) = some ds := by simp only [getL, h]
@[simp] theorem getL_lst (ds : List D) : getL μ (.lst ds) = some ds := rfl
@[simp] theorem bin_addI (a b : Int) : G.bin .add (.int a) (.int b) μ = .ok (.int (a + b)) μ := rfl
@[simp] theorem bin_subI (a b : Int) : G.bin .sub (.int a) (.int b) μ = .ok (.int (a - b)) μ := rfl
theorem bin_addS {a b : Tx} (h : a.length + b.length ≤ line) : G.bin .add (.str a) (.str b) μ = .ok (.str (a ++ b)) μ := by simp only [G.bin, addD, h, if_true]
theorem bin_mod {a b : Int} (h : 0 < b) : G.bin .mod (.int a) (.int b) μ = .ok (.int (a % b)) μ := by simp only [G.bin, ints2, h, if_true]
theorem bin_fdiv {a b : Int} (h : 0 < b) (h2 : b < 18446744073709551616) : G.bin .fdiv (.int a) (.int b) μ = .ok (.int (a / b)) μ := by simp only [G.bin, ints2, h, h2, and_self, if_true]
theorem bin_mulL {a b : Int} (h : mulOk a b = true) : G.bin .mul (.int a) (.int b) μ = .ok (.int (a * b)) μ := by simp only [G.bin, mulD, h, if_true]
theorem wp_append {fr : Bool} {k : Nat} {a : D} {ds : List D} {Q : D → Mem → Prop} {Z : EK} (ha : a.cold = true ∨ fr = false) (h : μ[k]? = some (.lst ds)) (hl : ds.length < line) (q : Q .non (μ.set k (.lst (ds ++ [a])))) : (bmeth fr (.ref k) .append [a] μ).wp Q Z := by
  have e : (if fr then frz1 a μ else (a, μ)) = (a, μ) := by
    cases fr with
    | false => rfl
    | true => rcases ha with ha | ha
              · exact frz1_cold ha μ
              · cases ha
  simp only [bmeth, mAppend, e, h, hl, if_true, wp_ok]
  exact q
theorem bm_app {fr : Bool} {k : Nat} {a : D} {ds : List D} (h : μ[k]? = some (.lst ds)) (hl : ds.length < line) (ha : (a.cold || !fr) = true) : bmeth fr (.ref k) .append [a] μ = .ok .non (μ.set k (.lst (ds ++ [a]))) := by
  have e : (if fr then frz1 a μ else (a, μ)) = (a, μ) := by
    cases fr with
    | false => rfl
    | true => exact frz1_cold (by simpa using ha) μ
  simp only [bmeth, mAppend, e, h, hl, if_true]
theorem recv_app {k : Nat} {ds : List D} (h : μ[k]? = some (.lst ds)) : recv .append μ (.ref k) = true := by simp only [recv, getL, h]; rfl
theorem inD_str {k : Nat} {ns : List Tx} (h : μ[k]? = some (.lst (ns.map D.str))) (x : Tx) : inD μ (.str x) (.ref k) = some (decide (x ∈ ns)) := by
  have e1 : ∀ ns : List Tx, (ns.map D.str).all flat = true := fun ns => by induction ns with
    | nil => rfl
    | cons a l ih => rw [List.map_cons, List.all_cons, ih]; rfl
  have e2 : ∀ ns : List Tx, ((ns.map D.str).any fun d => d.eqv (.str x)) = decide (x ∈ ns) := fun ns => by induction ns with
    | nil => rfl
    | cons a l ih =>
      rw [List.map_cons, List.any_cons, ih]
      simp only [D.eqv, List.mem_cons]
      by_cases h : x = a
      · subst h; simp
      · have h2 : (a == x) = false := by simpa using fun e => h e.symm
        rw [h2]
        simp [h]
  simp only [inD, h, flat, e1, e2, Bool.and_self, if_true]
theorem any_int (x : Int) (ns : List Int) : ((ns.map D.int).any fun d => d.eqv (.int x)) = decide (x ∈ ns) := by
  induction ns with
  | nil => rfl
  | cons a l ih =>
    rw [List.map_cons, List.any_cons, ih]
    simp only [D.eqv, List.mem_cons]
    by_cases h : x = a
    · subst h; simp
    · have h2 : (a == x) = false := by simpa using fun e => h e.symm
      rw [h2]
      simp [h]
theorem all_int (ns : List Int) : (ns.map D.int).all flat = true := by
  induction ns with
  | nil => rfl
  | cons a l ih => rw [List.map_cons, List.all_cons, ih]; rfl
theorem inD_int {k : Nat} {ns : List Int} (h : μ[k]? = some (.lst (ns.map D.int))) (x : Int) : inD μ (.int x) (.ref k) = some (decide (x ∈ ns)) := by
  simp only [inD, h, flat, all_int, any_int, Bool.and_self, if_true]
@[simp] theorem inD_intL (ns : List Int) (x : Int) : inD μ (.int x) (.lst (ns.map D.int)) = some (decide (x ∈ ns)) := by
  simp only [inD, flat, all_int, any_int, Bool.and_self, if_true]
end
theorem fits62_le {i : Int} (h1 : -100000000000000 < i) (h2 : i < 100000000000000) : fits62 i = true := by
  have h : i.natAbs < 100000000000000 := by omega
  exact decide_eq_true (Nat.lt_of_lt_of_le h (by decide))
theorem small_le {i : Int} (h1 : -100000000000000 < i) (h2 : i < 100000000000000) : small i = true := by
  have h : i.natAbs < 100000000000000 := by omega
  exact decide_eq_true (Nat.lt_of_lt_of_le h (by decide))
end G
/-! The G machine over the hand layer: what relates its data and store to values and the abstract heap. -/
set_option Elab.async false
set_option linter.all false
set_option maxRecDepth 100000
namespace G
open PySem PySem.Spec L2
/-- a text of the machine as a text of the model -/
def cs (x : Tx) : PySem.Str := ⟨(x.map Char.toNat).toArray⟩
theorem charNat_inj {a b : Char} (h : a.toNat = b.toNat) : a = b := Char.ext (UInt32.toNat_inj.mp h)
theorem map_toNat_inj : ∀ {x y : Tx}, x.map Char.toNat = y.map Char.toNat → x = y
  | [], [], _ => rfl
  | [], _ :: _, h => by simp at h
  | _ :: _, [], h => by simp at h
  | a :: x, b :: y, h => by
    simp only [List.map_cons, List.cons.injEq] at h
    rw [charNat_inj h.1, map_toNat_inj h.2]
theorem cs_inj {x y : Tx} (h : cs x = cs y) : x = y := by
  have h1 : (x.map Char.toNat).toArray = (y.map Char.toNat).toArray := congrArg PySem.Str.cps h
  exact map_toNat_inj (by simpa using h1)
theorem cs_eq {x y : Tx} : cs x = cs y ↔ x = y := ⟨cs_inj, fun h => by rw [h]⟩
theorem cs_len (x : Tx) : (cs x).length = x.length := by simp [cs, PySem.Str.length]
theorem cs_cps (x : Tx) : (cs x).cps.toList = x.map Char.toNat := by simp [cs]
theorem ofString_cs (s : String) : PySem.Str.ofString s = cs s.toList := PySem.Str.ofString_eq_toList s
theorem ofString_inj {a b : String} (h : PySem.Str.ofString a = PySem.Str.ofString b) : a = b := by
  rw [ofString_cs, ofString_cs] at h
  exact String.toList_inj.mp (cs_inj h)
theorem cs_append (x y : Tx) : cs (x ++ y) = cs x ++ cs y := by
  show cs (x ++ y) = (⟨(cs x).cps ++ (cs y).cps⟩ : PySem.Str)
  simp [cs]
/-- where the store's cells stand; what is frozen -/
structure Mp where
  al : Nat → Option Addr
  fz : Hp
/-- a list that is read: tracked, frozen, or the module's own as it was laid -/
def SqX (K : PySem.W.Frag) (H : Hp) (a : Addr) (xs : List V) : Prop :=
  Rd H a (.lst xs) ∨ ∃ (its : Array Value) (n : Nat), K.lookup a = some { cls := .type "list", data := .seq its n } ∧ its.size ≤ sizeLine ∧ Vals xs its.toList
theorem SqX.l {K : PySem.W.Frag} {H : Hp} {a : Addr} {xs : List V} (h : SqX K H a xs) : SqL K H a xs := by
  rcases h with h | ⟨its, n, h1, h2, h3⟩
  · exact .inl h
  · exact .inr ⟨_, its, n, h1, rfl, rfl, rfl, h2, h3⟩
mutual
inductive Rp (K : PySem.W.Frag) (m : Mp) : V → D → Prop
  | non : Rp K m .non .non
  | bl (b : Bool) : Rp K m (.bl b) (.bl b)
  | int (i : Int) : Rp K m (.int i) (.int i)
  | str (x : Tx) : x.length ≤ line → Rp K m (.str (cs x)) (.str x)
  | tup {a : Addr} {xs : List V} {ds : List D} : SqT K m.fz a xs → Rps K m xs ds → Rp K m (.ref a) (.tup ds)
  | lst {a : Addr} {xs : List V} {ds : List D} : SqX K m.fz a xs → Rps K m xs ds → Rp K m (.ref a) (.lst ds)
  | ref {k : Nat} {a : Addr} : m.al k = some a → Rp K m (.ref a) (.ref k)
inductive Rps (K : PySem.W.Frag) (m : Mp) : List V → List D → Prop
  | nil : Rps K m [] []
  | cons {v : V} {vs : List V} {d : D} {ds : List D} : Rp K m v d → Rps K m vs ds → Rps K m (v :: vs) (d :: ds)
end
/-- one map within another -/
structure Le (m m' : Mp) : Prop where
  al : ∀ k a, m.al k = some a → m'.al k = some a
  fz : ∀ a o, m.fz a = some o → m'.fz a = some o
theorem Le.refl (m : Mp) : Le m m := ⟨fun _ _ h => h, fun _ _ h => h⟩
theorem Le.trans {a b c : Mp} (x : Le a b) (y : Le b c) : Le a c := ⟨fun k p h => y.al k p (x.al k p h), fun p o h => y.fz p o (x.fz p o h)⟩
theorem Le.rd {m m' : Mp} (l : Le m m') {a : Addr} {u : HO} (h : Rd m.fz a u) : Rd m'.fz a u := by
  rcases h with h | ⟨o, h⟩
  · exact .inl (l.fz _ _ h)
  · exact .inr ⟨o, l.fz _ _ h⟩
theorem Le.sqL {K : PySem.W.Frag} {m m' : Mp} (l : Le m m') {a : Addr} {xs : List V} (h : SqL K m.fz a xs) : SqL K m'.fz a xs := by
  rcases h with h | h
  · exact .inl (l.rd h)
  · exact .inr h
theorem Le.sqX {K : PySem.W.Frag} {m m' : Mp} (l : Le m m') {a : Addr} {xs : List V} (h : SqX K m.fz a xs) : SqX K m'.fz a xs := by
  rcases h with h | h
  · exact .inl (l.rd h)
  · exact .inr h
theorem Le.sqT {K : PySem.W.Frag} {m m' : Mp} (l : Le m m') {a : Addr} {xs : List V} (h : SqT K m.fz a xs) : SqT K m'.fz a xs := by
  rcases h with h | h
  · exact .inl (l.rd h)
  · exact .inr h
mutual
theorem Rp.le {K : PySem.W.Frag} {m m' : Mp} (l : Le m m') : ∀ {v : V} (d : D), Rp K m v d → Rp K m' v d
  | _, .non, h => by cases h; exact .non
  | _, .bl b, h => by cases h; exact .bl b
  | _, .int i, h => by cases h; exact .int i
  | _, .str x, h => by cases h with | str _ hx => exact .str x hx
  | _, .tup ds, h => by cases h with | tup h1 h2 => exact .tup (l.sqT h1) (Rps.le l ds h2)
  | _, .lst ds, h => by cases h with | lst h1 h2 => exact .lst (l.sqX h1) (Rps.le l ds h2)
  | _, .ref k, h => by cases h with | ref h1 => exact .ref (l.al _ _ h1)
theorem Rps.le {K : PySem.W.Frag} {m m' : Mp} (l : Le m m') : ∀ {vs : List V} (ds : List D), Rps K m vs ds → Rps K m' vs ds
  | _, [], h => by cases h; exact .nil
  | _, d :: ds, h => by cases h with | cons h1 h2 => exact .cons (Rp.le l d h1) (Rps.le l ds h2)
end
theorem Rp.mono {K : PySem.W.Frag} {m m' : Mp} {v : V} {d : D} (h : Rp K m v d) (l : Le m m') : Rp K m' v d := Rp.le l d h
theorem Rps.mono {K : PySem.W.Frag} {m m' : Mp} {vs : List V} {ds : List D} (h : Rps K m vs ds) (l : Le m m') : Rps K m' vs ds := Rps.le l ds h
section
variable {K : PySem.W.Frag} {m m' : Mp}
theorem Rps.len : ∀ {vs : List V} {ds : List D}, Rps K m vs ds → vs.length = ds.length
  | _, _, .nil => rfl
  | _, _, .cons _ t => congrArg Nat.succ (Rps.len t)
theorem Rps.app : ∀ {vs ws : List V} {ds es : List D}, Rps K m vs ds → Rps K m ws es → Rps K m (vs ++ ws) (ds ++ es)
  | _, _, _, _, .nil, s => s
  | _, _, _, _, .cons r t, s => .cons r (Rps.app t s)
theorem Rps.take : ∀ {vs : List V} {ds : List D} (n : Nat), Rps K m vs ds → Rps K m (vs.take n) (ds.take n)
  | _, _, 0, _ => .nil
  | _, _, _ + 1, .nil => .nil
  | _, _, n + 1, .cons r t => .cons r (Rps.take n t)
theorem Rps.drop : ∀ {vs : List V} {ds : List D} (n : Nat), Rps K m vs ds → Rps K m (vs.drop n) (ds.drop n)
  | _, _, 0, r => r
  | _, _, _ + 1, .nil => .nil
  | _, _, n + 1, .cons _ t => Rps.drop n t
theorem Rps.get : ∀ {vs : List V} {ds : List D} {i : Nat} {d : D}, Rps K m vs ds → ds[i]? = some d → ∃ v, vs[i]? = some v ∧ Rp K m v d
  | _, _, _, _, .nil, e => by simp at e
  | _, _, 0, _, .cons r _, e => by simp at e; subst e; exact ⟨_, rfl, r⟩
  | _, _, i + 1, d, .cons _ t, e => by
    obtain ⟨v, h1, h2⟩ := Rps.get (i := i) (d := d) t (by simpa using e)
    exact ⟨v, by simpa using h1, h2⟩
theorem Rps.getV : ∀ {vs : List V} {ds : List D} {i : Nat} {v : V}, Rps K m vs ds → vs[i]? = some v → ∃ d, ds[i]? = some d ∧ Rp K m v d
  | _, _, _, _, .nil, e => by simp at e
  | _, _, 0, _, .cons r _, e => by simp at e; subst e; exact ⟨_, rfl, r⟩
  | _, _, i + 1, d, .cons _ t, e => by
    obtain ⟨v, h1, h2⟩ := Rps.getV (i := i) (v := d) t (by simpa using e)
    exact ⟨v, by simpa using h1, h2⟩
theorem Rps.set : ∀ {vs : List V} {ds : List D} (i : Nat) {v : V} {d : D}, Rps K m vs ds → Rp K m v d → Rps K m (vs.set i v) (ds.set i d)
  | _, _, _, _, _, .nil, _ => .nil
  | _, _, 0, _, _, .cons _ t, r => .cons r t
  | _, _, i + 1, _, _, .cons q t, r => .cons q (Rps.set i t r)
theorem Rps.rev {vs : List V} {ds : List D} (h : Rps K m vs ds) : Rps K m vs.reverse ds.reverse := by
  induction h using Rps.rec (motive_1 := fun _ _ _ => True) with
  | nil => exact .nil
  | cons r t _ ih =>
    rw [List.reverse_cons, List.reverse_cons]
    exact ih.app (.cons r .nil)
  | _ => trivial
theorem Rps.dropLast {vs : List V} {ds : List D} (h : Rps K m vs ds) : Rps K m vs.dropLast ds.dropLast := by
  rw [List.dropLast_eq_take, List.dropLast_eq_take, h.len]
  exact h.take _
theorem Rps.erase : ∀ {vs : List V} {ds : List D} (i : Nat), Rps K m vs ds → Rps K m (vs.eraseIdx i) (ds.eraseIdx i)
  | _, _, _, .nil => .nil
  | _, _, 0, .cons _ t => t
  | _, _, i + 1, .cons q t => .cons q (Rps.erase i t)
theorem Rps.ints : ∀ {vs : List V} {ds : List D} {ns : List Int}, Rps K m vs ds → intsOf ds = some ns → vs = ns.map V.int ∧ ds = ns.map D.int
  | _, _, _, .nil, e => by
    simp only [intsOf, Option.some.injEq] at e
    subst e
    exact ⟨rfl, rfl⟩
  | _, d :: ds, ns, .cons r t, e => by
    cases d with
    | int i =>
      cases r
      simp only [intsOf, Option.map_eq_some_iff] at e
      obtain ⟨ms, h1, rfl⟩ := e
      obtain ⟨e1, e2⟩ := Rps.ints t h1
      rw [e1, e2]
      exact ⟨rfl, rfl⟩
    | _ => simp [intsOf] at e
theorem Rps.ofInts : ∀ ns : List Int, Rps K m (ns.map V.int) (ns.map D.int)
  | [] => .nil
  | n :: ns => .cons (.int n) (Rps.ofInts ns)
theorem Rps.bools : ∀ {vs : List V} {ds : List D} {ns : List Bool}, Rps K m vs ds → boolsOf ds = some ns → vs = ns.map V.bl
  | _, _, _, .nil, e => by
    simp only [boolsOf, Option.some.injEq] at e
    subst e
    rfl
  | _, d :: ds, ns, .cons r t, e => by
    cases d with
    | bl i =>
      cases r
      simp only [boolsOf, Option.map_eq_some_iff] at e
      obtain ⟨ms, h1, rfl⟩ := e
      rw [Rps.bools t h1]
      rfl
    | _ => simp [boolsOf] at e
theorem Rps.texts : ∀ {vs : List V} {ds : List D} {ns : List Tx}, Rps K m vs ds → textsOf ds = some ns → vs = ns.map fun x => V.str (cs x)
  | _, _, _, .nil, e => by
    simp only [textsOf, Option.some.injEq] at e
    subst e
    rfl
  | _, d :: ds, ns, .cons r t, e => by
    cases d with
    | str i =>
      cases r
      simp only [textsOf, Option.map_eq_some_iff] at e
      obtain ⟨ms, h1, rfl⟩ := e
      rw [Rps.texts t h1]
      rfl
    | _ => simp [textsOf] at e
theorem Rps.ofTexts : ∀ ns : List Tx, (∀ x ∈ ns, x.length ≤ line) → Rps K m (ns.map fun x => V.str (cs x)) (ns.map D.str)
  | [], _ => .nil
  | n :: ns, h => .cons (.str n (h n List.mem_cons_self)) (Rps.ofTexts ns fun x hx => h x (List.mem_cons_of_mem _ hx))
end
/-! ### the store -/
def kk : Key → L2.Key
  | .inl i => .inl i
  | .inr x => .inr (cs x)
theorem kk_inj {a b : Key} (h : kk a = kk b) : a = b := by
  cases a with
  | inl i => cases b with
    | inl j => injection h with h; rw [h]
    | inr y => cases h
  | inr x => cases b with
    | inl j => cases h
    | inr y => injection h with h; rw [cs_inj h]
theorem kk_eq {a b : Key} : kk a = kk b ↔ a = b := ⟨kk_inj, fun h => by rw [h]⟩
/-- a key's text fits -/
def keyB : Key → Prop
  | .inl _ => True
  | .inr x => x.length ≤ line
abbrev KRp (K : PySem.W.Frag) (m : Mp) : List (L2.Key × V) → List (Key × D) → Prop := Paired fun p q => p.1 = kk q.1 ∧ keyB q.1 ∧ Rp K m p.2 q.2
abbrev FRp (K : PySem.W.Frag) (m : Mp) : List (PySem.Str × V) → List (String × D) → Prop := Paired fun p q => p.1 = PySem.Str.ofString q.1 ∧ Rp K m p.2 q.2
/-- the class's address -/
def clM (mg : PySem.Str → Option Value) (c : String) : Option Addr := match mg (PySem.Str.ofString c) with
  | some (.ref C) => some C
  | _ => none
abbrev cl (X : Cx) (c : String) : Option Addr := clM X.mg c
def CellG (K : PySem.W.Frag) (mg : PySem.Str → Option Value) (m : Mp) (H : Hp) (a : Addr) : Cell → Prop
  | .lst ds => ∃ xs, H a = some (.lst xs) ∧ m.fz a = none ∧ Rps K m xs ds
  | .fz ds => ∃ xs, m.fz a = some (.lst xs) ∧ Rps K m xs ds
  | .dict kvs => ∃ ys, H a = some (.dK ys) ∧ m.fz a = none ∧ KRp K m ys kvs
  | .obj c fs => ∃ C dx ys, clM mg c = some C ∧ H a = some (.ins C dx ys) ∧ m.fz a = none ∧ FRp K m ys fs
abbrev CellOk (X : Cx) (m : Mp) (H : Hp) (a : Addr) (c : Cell) : Prop := CellG X.K X.mg m H a c
structure RelG (K : PySem.W.Frag) (mg : PySem.Str → Option Value) (m : Mp) (H : Hp) (μ : Mem) : Prop where
  fzH : ∀ a o, m.fz a = some o → H a = some o
  cell : ∀ k c, μ[k]? = some c → ∃ a, m.al k = some a ∧ CellG K mg m H a c
  inj : ∀ j k a, m.al j = some a → m.al k = some a → j = k
  top : ∀ k a, m.al k = some a → k < μ.length
abbrev RelM (X : Cx) (m : Mp) (H : Hp) (μ : Mem) : Prop := RelG X.K X.mg m H μ
/-- what came behind -/
structure Ext (m : Mp) (H : Hp) (m' : Mp) (H' : Hp) : Prop where
  le : Le m m'
  alN : ∀ k a, m'.al k = some a → m.al k = some a ∨ H a = none
  fzN : ∀ a o, m'.fz a = some o → m.fz a = some o ∨ H a = none ∨ ∃ k, m.al k = some a
  keep : ∀ a o, H a = some o → (∀ k, m.al k ≠ some a) → H' a = some o
  dom : ∀ a, H a ≠ none → H' a ≠ none
theorem Ext.refl (m : Mp) (H : Hp) : Ext m H m H := ⟨Le.refl m, fun _ _ h => .inl h, fun _ _ h => .inl h, fun _ _ h _ => h, fun _ h => h⟩
theorem Ext.trans {m m1 m2 : Mp} {H H1 H2 : Hp} (x : Ext m H m1 H1) (y : Ext m1 H1 m2 H2) : Ext m H m2 H2 := by
  have nn : ∀ {a : Addr}, H1 a = none → H a = none := fun {a} h => by
    cases e : H a with
    | none => rfl
    | some o => exact absurd h (x.dom a (by rw [e]; intro q; cases q))
  refine ⟨x.le.trans y.le, fun k a h => ?_, fun a o h => ?_, fun a o h hn => ?_, fun a h => y.dom a (x.dom a h)⟩
  · rcases y.alN k a h with h | h
    · exact x.alN k a h
    · exact .inr (nn h)
  · rcases y.fzN a o h with h | h | ⟨k, h⟩
    · exact x.fzN a o h
    · exact .inr (.inl (nn h))
    · rcases x.alN k a h with h | h
      · exact .inr (.inr ⟨k, h⟩)
      · exact .inr (.inl h)
  · refine y.keep a o (x.keep a o h hn) fun k hk => ?_
    rcases x.alN k a hk with q | q
    · exact hn k q
    · rw [q] at h; cases h
theorem Paired.imp {α β : Type} {F Q : α → β → Prop} : ∀ {l₁ : List α} {l₂ : List β}, Paired F l₁ l₂ → (∀ a b, F a b → Q a b) → Paired Q l₁ l₂
  | _, _, .nil, _ => .nil
  | _, _, .cons r t, f => .cons (f _ _ r) (Paired.imp t f)
section
variable {X : Cx} {m m' : Mp} {H H' : Hp} {μ : Mem} {a : Addr}
theorem CellG.le (l : Le m m') (hf : m.fz a = none → m'.fz a = none) : ∀ {c : Cell}, CellOk X m H a c → H' a = H a → CellOk X m' H' a c
  | .lst ds, ⟨xs, h1, h2, h3⟩, e => ⟨xs, e.trans h1, hf h2, h3.mono l⟩
  | .fz ds, ⟨xs, h1, h3⟩, e => ⟨xs, l.fz _ _ h1, h3.mono l⟩
  | .dict kvs, ⟨ys, h1, h2, h3⟩, e => ⟨ys, e.trans h1, hf h2, Paired.imp h3 fun _ _ q => ⟨q.1, q.2.1, q.2.2.mono l⟩⟩
  | .obj c fs, ⟨C, dx, ys, h0, h1, h2, h3⟩, e => ⟨C, dx, ys, h0, e.trans h1, hf h2, Paired.imp h3 fun _ _ q => ⟨q.1, q.2.mono l⟩⟩
theorem CellG.here (rel : RelM X m H μ) : ∀ {c : Cell}, CellOk X m H a c → ∃ o, H a = some o
  | .lst ds, ⟨xs, h1, _, _⟩ => ⟨_, h1⟩
  | .fz ds, ⟨xs, h1, _⟩ => ⟨_, rel.fzH _ _ h1⟩
  | .dict kvs, ⟨ys, h1, _, _⟩ => ⟨_, h1⟩
  | .obj c fs, ⟨C, dx, ys, _, h1, _, _⟩ => ⟨_, h1⟩
theorem RelG.al_here (rel : RelM X m H μ) {k : Nat} (h : m.al k = some a) : ∃ o, H a = some o := by
  have hk := rel.top k a h
  obtain ⟨b, hb, c⟩ := rel.cell k μ[k] (List.getElem?_eq_getElem hk)
  rw [h] at hb
  cases hb
  exact c.here rel
/-- a new cell at p -/
def Mp.add (m : Mp) (k : Nat) (p : Addr) : Mp := ⟨fun j => if j = k then some p else m.al j, m.fz⟩
/-- p frozen -/
def Mp.frz (m : Mp) (p : Addr) (o : HO) : Mp := ⟨m.al, upd m.fz p o⟩
theorem RelG.new {p : Addr} {o : HO} {c : Cell} (rel : RelM X m H μ) (hp : H p = none) (hc : CellOk X (m.add μ.length p) (upd H p o) p c) : RelM X (m.add μ.length p) (upd H p o) (μ ++ [c]) ∧ Ext m H (m.add μ.length p) (upd H p o) := by
  have l : Le m (m.add μ.length p) := ⟨fun k b h => by
    have := rel.top k b h
    show (if k = μ.length then some p else m.al k) = some b
    rw [if_neg (by omega)]
    exact h, fun _ _ h => h⟩
  have ne : ∀ {b : Addr} {q : HO}, H b = some q → b ≠ p := fun h => ne_of_none h hp
  refine ⟨⟨fun b q h => ?_, fun k q h => ?_, fun j k b h1 h2 => ?_, fun k b h => ?_⟩, ⟨l, fun k b h => ?_, fun b q h => .inl h, fun b q h _ => ?_, fun b h => ?_⟩⟩
  · have e := rel.fzH b q h
    rw [upd_ne (ne e)]
    exact e
  · by_cases hk : k < μ.length
    · rw [List.getElem?_append_left hk] at h
      obtain ⟨b, hb, cc⟩ := rel.cell k q h
      obtain ⟨ob, eb⟩ := cc.here rel
      exact ⟨b, l.al _ _ hb, cc.le l (fun z => z) (upd_ne (ne eb))⟩
    · have hk2 : k = μ.length := by
        have := (List.getElem?_eq_some_iff.mp h).1
        simp only [List.length_append, List.length_cons, List.length_nil] at this
        omega
      subst hk2
      rw [List.getElem?_append_right (Nat.le_refl _)] at h
      simp at h
      subst h
      exact ⟨p, if_pos rfl, hc⟩
  · have h1 : (if j = μ.length then some p else m.al j) = some b := h1
    have h2 : (if k = μ.length then some p else m.al k) = some b := h2
    by_cases e1 : j = μ.length
    · rw [if_pos e1] at h1
      cases h1
      by_cases e2 : k = μ.length
      · omega
      · rw [if_neg e2] at h2
        obtain ⟨o, eo⟩ := rel.al_here h2
        rw [hp] at eo; cases eo
    · rw [if_neg e1] at h1
      by_cases e2 : k = μ.length
      · rw [if_pos e2] at h2
        cases h2
        obtain ⟨o, eo⟩ := rel.al_here h1
        rw [hp] at eo; cases eo
      · rw [if_neg e2] at h2
        exact rel.inj j k b h1 h2
  · have h : (if k = μ.length then some p else m.al k) = some b := h
    rw [List.length_append]
    by_cases e1 : k = μ.length
    · rw [e1]; simp
    · rw [if_neg e1] at h
      have := rel.top k b h
      simp only [List.length_cons, List.length_nil]
      omega
  · have h : (if k = μ.length then some p else m.al k) = some b := h
    by_cases e1 : k = μ.length
    · rw [if_pos e1] at h
      cases h
      exact .inr hp
    · rw [if_neg e1] at h
      exact .inl h
  · rw [upd_ne (ne h)]
    exact h
  · by_cases e : b = p
    · rw [e, upd_same]; intro q; cases q
    · rw [upd_ne e]; exact h
/-- a new frozen object -/
theorem RelG.newF {p : Addr} {o : HO} (rel : RelM X m H μ) (hp : H p = none) : RelM X (m.frz p o) (upd H p o) μ ∧ Ext m H (m.frz p o) (upd H p o) ∧ m.fz p = none := by
  have hf : m.fz p = none := by
    cases e : m.fz p with
    | none => rfl
    | some q => rw [rel.fzH _ _ e] at hp; cases hp
  have ne : ∀ {b : Addr} {q : HO}, H b = some q → b ≠ p := fun h => ne_of_none h hp
  have l : Le m (m.frz p o) := ⟨fun _ _ h => h, fun b q h => by
    show upd m.fz p o b = some q
    rw [upd_ne (ne (rel.fzH _ _ h))]
    exact h⟩
  refine ⟨⟨fun b q h => ?_, fun k q h => ?_, rel.inj, rel.top⟩, ⟨l, fun _ _ h => .inl h, fun b q h => ?_, fun b q h _ => by rw [upd_ne (ne h)]; exact h, fun b h => ?_⟩, hf⟩
  · have h : upd m.fz p o b = some q := h
    by_cases e : b = p
    · subst e
      rw [upd_same] at h ⊢
      exact h
    · rw [upd_ne e] at h ⊢
      exact rel.fzH b q h
  · obtain ⟨b, hb, cc⟩ := rel.cell k q h
    obtain ⟨ob, eb⟩ := cc.here rel
    refine ⟨b, hb, cc.le l (fun z => ?_) (upd_ne (ne eb))⟩
    show upd m.fz p o b = none
    rw [upd_ne (ne eb)]
    exact z
  · have h : upd m.fz p o b = some q := h
    by_cases e : b = p
    · subst e
      exact .inr (.inl hp)
    · rw [upd_ne e] at h
      exact .inl h
  · by_cases e : b = p
    · rw [e, upd_same]; intro q; cases q
    · rw [upd_ne e]; exact h
/-- a cell written -/
theorem RelG.wr {k : Nat} {o : HO} {c : Cell} (rel : RelM X m H μ) (hk : m.al k = some a) (hf : m.fz a = none) (hc : CellOk X m (upd H a o) a c) : RelM X m (upd H a o) (μ.set k c) ∧ Ext m H m (upd H a o) := by
  refine ⟨⟨fun b q h => ?_, fun j q h => ?_, rel.inj, fun j b h => ?_⟩, ⟨Le.refl m, fun _ _ h => .inl h, fun _ _ h => .inl h, fun b q h hn => ?_, fun b h => ?_⟩⟩
  · have ne : b ≠ a := fun e => by rw [e, hf] at h; cases h
    rw [upd_ne ne]
    exact rel.fzH b q h
  · by_cases e : j = k
    · subst e
      have hlt := rel.top j a hk
      rw [List.getElem?_set_self hlt] at h
      cases h
      exact ⟨a, hk, hc⟩
    · rw [List.getElem?_set_ne (Ne.symm e)] at h
      obtain ⟨b, hb, cc⟩ := rel.cell j q h
      have ne : b ≠ a := fun z => e (rel.inj j k a (by rw [← z]; exact hb) hk)
      exact ⟨b, hb, cc.le (Le.refl m) (fun z => z) (upd_ne ne)⟩
  · rw [List.length_set]
    exact rel.top j b h
  · have ne : b ≠ a := fun e => hn k (by rw [e]; exact hk)
    rw [upd_ne ne]
    exact h
  · by_cases e : b = a
    · rw [e, upd_same]; intro q; cases q
    · rw [upd_ne e]; exact h
/-- a cell frozen -/
theorem RelG.fzc {k : Nat} {xs : List V} {ds : List D} (rel : RelM X m H μ) (hk : m.al k = some a) (ha : H a = some (.lst xs)) (hf : m.fz a = none) (r : Rps X.K m xs ds) : RelM X (m.frz a (.lst xs)) H (μ.set k (.fz ds)) ∧ Ext m H (m.frz a (.lst xs)) H := by
  have l : Le m (m.frz a (.lst xs)) := ⟨fun _ _ h => h, fun b q h => by
    show upd m.fz a (.lst xs) b = some q
    rw [upd_ne (fun e => by rw [e, hf] at h; cases h)]
    exact h⟩
  refine ⟨⟨fun b q h => ?_, fun j q h => ?_, rel.inj, fun j b h => ?_⟩, ⟨l, fun _ _ h => .inl h, fun b q h => ?_, fun b q h _ => h, fun b h => h⟩⟩
  · have h : upd m.fz a (.lst xs) b = some q := h
    by_cases e : b = a
    · subst e
      rw [upd_same] at h
      rw [ha]
      exact h
    · rw [upd_ne e] at h
      exact rel.fzH b q h
  · by_cases e : j = k
    · subst e
      have hlt := rel.top j a hk
      rw [List.getElem?_set_self hlt] at h
      cases h
      exact ⟨a, hk, xs, upd_same, r.mono l⟩
    · rw [List.getElem?_set_ne (Ne.symm e)] at h
      obtain ⟨b, hb, cc⟩ := rel.cell j q h
      have ne : b ≠ a := fun z => e (rel.inj j k a (by rw [← z]; exact hb) hk)
      refine ⟨b, hb, cc.le l (fun z => ?_) rfl⟩
      show upd m.fz a (.lst xs) b = none
      rw [upd_ne ne]
      exact z
  · rw [List.length_set]
    exact rel.top j b h
  · have h : upd m.fz a (.lst xs) b = some q := h
    by_cases e : b = a
    · subst e
      exact .inr (.inr ⟨k, hk⟩)
    · rw [upd_ne e] at h
      exact .inl h
/-- a cell read -/
theorem RelG.at_ (rel : RelM X m H μ) {k : Nat} {v : V} {c : Cell} (r : Rp X.K m v (.ref k)) (h : μ[k]? = some c) : ∃ a, v = .ref a ∧ m.al k = some a ∧ CellOk X m H a c := by
  cases r with
  | ref hk =>
    obtain ⟨b, hb, cc⟩ := rel.cell k c h
    rw [hk] at hb
    cases hb
    exact ⟨_, rfl, hk, cc⟩
theorem rd_fz (rel : RelM X m H μ) {u : HO} (h : Rd m.fz a u) : Rd H a u := by
  rcases h with h | ⟨o, h⟩
  · exact .inl (rel.fzH _ _ h)
  · exact .inr ⟨o, rel.fzH _ _ h⟩
theorem RelG.sqL (rel : RelM X m H μ) {K : PySem.W.Frag} {xs : List V} (h : SqL K m.fz a xs) : SqL K H a xs := by
  rcases h with h | h
  · exact .inl (rd_fz rel h)
  · exact .inr h
theorem RelG.sqX (rel : RelM X m H μ) {K : PySem.W.Frag} {xs : List V} (h : SqX K m.fz a xs) : SqX K H a xs := by
  rcases h with h | h
  · exact .inl (rd_fz rel h)
  · exact .inr h
theorem RelG.sqT (rel : RelM X m H μ) {K : PySem.W.Frag} {xs : List V} (h : SqT K m.fz a xs) : SqT K H a xs := by
  rcases h with h | h
  · exact .inl (rd_fz rel h)
  · exact .inr h
/-- a list's items -/
theorem RelG.getL (rel : RelM X m H μ) {v : V} {d : D} {ds : List D} (r : Rp X.K m v d) (h : getL μ d = some ds) : ∃ a xs, v = .ref a ∧ SqX X.K H a xs ∧ Rps X.K m xs ds := by
  cases d with
  | lst es =>
    simp only [G.getL, Option.some.injEq] at h
    subst h
    cases r with
    | lst h1 h2 => exact ⟨_, _, rfl, rel.sqX h1, h2⟩
  | ref k =>
    simp only [G.getL] at h
    cases e : μ[k]? with
    | none => rw [e] at h; cases h
    | some c =>
      obtain ⟨a, rfl, hk, cc⟩ := rel.at_ r e
      rw [e] at h
      cases c with
      | lst es =>
        simp only [Option.some.injEq] at h
        subst h
        obtain ⟨xs, h1, _, h3⟩ := cc
        exact ⟨a, xs, rfl, .inl (.inl h1), h3⟩
      | fz es =>
        simp only [Option.some.injEq] at h
        subst h
        obtain ⟨xs, h1, h3⟩ := cc
        exact ⟨a, xs, rfl, .inl (.inl (rel.fzH _ _ h1)), h3⟩
      | dict _ => cases h
      | obj _ _ => cases h
  | _ => simp [G.getL] at h
theorem RelG.getT (rel : RelM X m H μ) {v : V} {ds : List D} (r : Rp X.K m v (.tup ds)) : ∃ a xs, v = .ref a ∧ SqT X.K H a xs ∧ Rps X.K m xs ds := by
  cases r with
  | tup h1 h2 => exact ⟨_, _, rfl, rel.sqT h1, h2⟩
theorem RelG.getS (rel : RelM X m H μ) {v : V} {d : D} {ds : List D} (r : Rp X.K m v d) (h : getS μ d = some ds) : ∃ a xs, v = .ref a ∧ (SqL X.K H a xs ∨ SqT X.K H a xs) ∧ Rps X.K m xs ds := by
  cases d with
  | tup es =>
    simp only [G.getS, Option.some.injEq] at h
    subst h
    obtain ⟨a, xs, e, h1, h2⟩ := rel.getT r
    exact ⟨a, xs, e, .inr h1, h2⟩
  | lst es =>
    obtain ⟨a, xs, e, h1, h2⟩ := rel.getL r h
    exact ⟨a, xs, e, .inl h1.l, h2⟩
  | ref k =>
    obtain ⟨a, xs, e, h1, h2⟩ := rel.getL r h
    exact ⟨a, xs, e, .inl h1.l, h2⟩
  | _ => simp [G.getS, G.getL] at h
/-- one datum frozen -/
theorem RelG.frz1 (rel : RelM X m H μ) {v : V} {d : D} (r : Rp X.K m v d) : ∃ m', RelM X m' H (frz1 d μ).2 ∧ Ext m H m' H ∧ Rp X.K m' v (frz1 d μ).1 := by
  have same : ∀ {e : D × Mem}, e = (d, μ) → ∃ m', RelM X m' H e.2 ∧ Ext m H m' H ∧ Rp X.K m' v e.1 := fun h => by
    subst h
    exact ⟨m, rel, Ext.refl m H, r⟩
  cases d with
  | ref k =>
    cases e : μ[k]? with
    | none => exact same (by simp only [G.frz1, e])
    | some c =>
      obtain ⟨a, rfl, hk, cc⟩ := rel.at_ r e
      cases c with
      | lst es =>
        obtain ⟨xs, h1, h2, h3⟩ := cc
        obtain ⟨q1, q2⟩ := rel.fzc hk h1 h2 h3
        simp only [G.frz1, e]
        exact ⟨_, q1, q2, .lst (.inl (.inl upd_same)) (h3.mono q2.le)⟩
      | fz es =>
        obtain ⟨xs, h1, h3⟩ := cc
        simp only [G.frz1, e]
        exact ⟨m, rel, Ext.refl m H, .lst (.inl (.inl h1)) h3⟩
      | dict _ => exact same (by simp only [G.frz1, e])
      | obj _ _ => exact same (by simp only [G.frz1, e])
  | _ => exact same rfl
theorem RelG.frz : ∀ {ds : List D} {m : Mp} {μ : Mem} {vs : List V}, RelM X m H μ → Rps X.K m vs ds → ∃ m', RelM X m' H (frz ds μ).2 ∧ Ext m H m' H ∧ Rps X.K m' vs (frz ds μ).1
  | [], m, μ, _, rel, r => by
    cases r
    exact ⟨m, rel, Ext.refl m H, .nil⟩
  | d :: ds, m, μ, _, rel, r => by
    cases r with
    | cons r1 r2 =>
      obtain ⟨m1, rel1, x1, q1⟩ := rel.frz1 r1
      obtain ⟨m2, rel2, x2, q2⟩ := RelG.frz rel1 (r2.mono x1.le)
      exact ⟨m2, rel2, x1.trans x2, .cons (q1.mono x2.le) q2⟩
theorem RelG.frzIf {b : Bool} {ds : List D} {vs : List V} (rel : RelM X m H μ) (r : Rps X.K m vs ds) : ∃ m', RelM X m' H (frzIf b ds μ).2 ∧ Ext m H m' H ∧ Rps X.K m' vs (frzIf b ds μ).1 := by
  cases b with
  | false => exact ⟨m, rel, Ext.refl m H, r⟩
  | true => exact rel.frz r
end
end G
/-! The G machine over the hand layer: expressions' judgement, operators. -/
set_option Elab.async false
set_option linter.all false
set_option maxRecDepth 100000
namespace G
open PySem PySem.Spec L2
section
variable {X : Cx}
/-- behind a computation of the machine: k of the datum, the store, the map, the heap; Xc of an exception -/
def PostG {α : Type} (K : PySem.W.Frag) (mg : PySem.Str → Option Value) (Xc : String → Mem → Mp → Hp → Prop) (m : Mp) (H : Hp) (r : R α) (k : α → Mem → Mp → Hp → Prop) : Prop := match r with
  | .ok a μ => ∀ m' H', Ext m H m' H' → RelG K mg m' H' μ → k a μ m' H'
  | .ex c μ => ∀ m' H', Ext m H m' H' → RelG K mg m' H' μ → Xc c μ m' H'
  | .bad => False
abbrev Post {α : Type} (X : Cx) (Xc : String → Mem → Mp → Hp → Prop) (m : Mp) (H : Hp) (r : R α) (k : α → Mem → Mp → Hp → Prop) : Prop := PostG X.K X.mg Xc m H r k
theorem PostG.bind {α β : Type} {Xc : String → Mem → Mp → Hp → Prop} {m : Mp} {H : Hp} {r : R α} {f : α → Mem → R β} {k : β → Mem → Mp → Hp → Prop} (h : Post X Xc m H (r.bind f) k) :
    Post X Xc m H r fun a μ m1 H1 => Post X Xc m1 H1 (f a μ) k := by
  cases r with
  | bad => exact h
  | ex c μ => exact h
  | ok a μ =>
    intro m1 H1 x1 r1
    have h : Post X Xc m H (f a μ) k := h
    show Post X Xc m1 H1 (f a μ) k
    cases e : f a μ with
    | bad => rw [e] at h; exact h
    | ex c μ2 => rw [e] at h; exact fun m2 H2 x2 r2 => h m2 H2 (x1.trans x2) r2
    | ok b μ2 => rw [e] at h; exact fun m2 H2 x2 r2 => h m2 H2 (x1.trans x2) r2
theorem PostG.imp {α : Type} {Xc : String → Mem → Mp → Hp → Prop} {m : Mp} {H : Hp} {r : R α} {k k' : α → Mem → Mp → Hp → Prop} (h : Post X Xc m H r k) (i : ∀ a μ m' H', Ext m H m' H' → RelM X m' H' μ → k a μ m' H' → k' a μ m' H') :
    Post X Xc m H r k' := by
  cases r with
  | bad => exact h
  | ex c μ => exact h
  | ok a μ => exact fun m1 H1 x1 r1 => i a μ m1 H1 x1 r1 (h m1 H1 x1 r1)
/-- from further on -/
theorem PostG.on {α : Type} {Xc : String → Mem → Mp → Hp → Prop} {m m1 : Mp} {H H1 : Hp} {r : R α} {k : α → Mem → Mp → Hp → Prop} (h : Post X Xc m H r k) (x1 : Ext m H m1 H1) : Post X Xc m1 H1 r k := by
  cases r with
  | bad => exact h
  | ex c μ2 => exact fun m2 H2 x2 r2 => h m2 H2 (x1.trans x2) r2
  | ok b μ2 => exact fun m2 H2 x2 r2 => h m2 H2 (x1.trans x2) r2
/-- the slots -/
def Loc (X : Cx) (m : Mp) (σ : St) (ρ : Env) : Prop := σ.length = ρ.length ∧ ∀ (i : Nat) (d : D), ρ[i]? = some (some d) → ∃ v, σ[i]? = some (some v) ∧ Rp X.K m v d
theorem Loc.mono {m m' : Mp} {σ : St} {ρ : Env} (h : Loc X m σ ρ) (l : Le m m') : Loc X m' σ ρ := ⟨h.1, fun i d e => let ⟨v, e1, r⟩ := h.2 i d e; ⟨v, e1, r.mono l⟩⟩
theorem Loc.set {m : Mp} {σ : St} {ρ : Env} {v : V} {d : D} (h : Loc X m σ ρ) (r : Rp X.K m v d) (i : Nat) : Loc X m (σ.set i (some v)) (ρ.set i (some d)) := by
  refine ⟨by rw [List.length_set, List.length_set]; exact h.1, fun j e he => ?_⟩
  by_cases hj : j = i
  · subst hj
    have hlt : j < ρ.length := by
      have := (List.getElem?_eq_some_iff.mp he).1
      rwa [List.length_set] at this
    rw [List.getElem?_set_self hlt] at he
    cases he
    exact ⟨v, List.getElem?_set_self (by rw [h.1]; exact hlt), r⟩
  · rw [List.getElem?_set_ne (Ne.symm hj)] at he
    obtain ⟨w, e1, q⟩ := h.2 j e he
    exact ⟨w, by rw [List.getElem?_set_ne (Ne.symm hj)]; exact e1, q⟩
theorem Loc.none {m : Mp} {σ : St} {ρ : Env} (h : Loc X m σ ρ) (i : Nat) : Loc X m (σ.set i none) (ρ.set i none) := by
  refine ⟨by rw [List.length_set, List.length_set]; exact h.1, fun j e he => ?_⟩
  by_cases hj : j = i
  · subst hj
    have hlt : j < ρ.length := by
      have := (List.getElem?_eq_some_iff.mp he).1
      rwa [List.length_set] at this
    rw [List.getElem?_set_self hlt] at he
    cases he
  · rw [List.getElem?_set_ne (Ne.symm hj)] at he
    obtain ⟨w, e1, q⟩ := h.2 j e he
    exact ⟨w, by rw [List.getElem?_set_ne (Ne.symm hj)]; exact e1, q⟩
theorem Loc.wipe {m : Mp} {σ : St} {ρ : Env} (h : Loc X m σ ρ) : ∀ is : List Nat, Loc X m (wipe σ is) (wipeE ρ is)
  | [] => h
  | i :: is => (Loc.wipe h is).none i
/-- the built-in names that a text uses are the built-in ones -/
structure Lib (mg : PySem.Str → Option Value) : Prop where
  len : mg "len" = none
  int : mg "int" = none
  str : mg "str" = none
  bool : mg "bool" = none
  abs : mg "abs" = none
  list : mg "list" = none
  tuple : mg "tuple" = none
  dict : mg "dict" = none
  repr : mg "repr" = none
  sorted : mg "sorted" = none
  sum : mg "sum" = none
  min : mg "min" = none
  max : mg "max" = none
  any : mg "any" = none
  all : mg "all" = none
  range : mg "range" = none
  enumerate : mg "enumerate" = none
  zip : mg "zip" = none
  reversed : mg "reversed" = none
  isinstance : mg "isinstance" = none
/-- exceptions, as the wish takes them -/
def xw (X : Cx) (W : WX) (σ : St) : String → Mem → Mp → Hp → Prop := fun c _ _ H' => ∀ A, cl X c = some A → W (.ref A) none σ H'
/-- an expression's reading: what the machine gives -/
def tE (C : Ctx) (X : Cx) (W : WX) (i : E) : TE := fun σ H Q => ∃ m ρ μ, RelM X m H μ ∧ Loc X m σ ρ ∧ Post X (xw X W σ) m H (evalE C i ρ μ) fun d _ m' H' => ∀ v, Rp X.K m' v d → Q v H'
def tEs (C : Ctx) (X : Cx) (W : WX) (i : Es) : TA := fun σ H Q => ∃ m ρ μ, RelM X m H μ ∧ Loc X m σ ρ ∧ Post X (xw X W σ) m H (evalEs C i ρ μ) fun d _ m' H' => ∀ v, Rps X.K m' v d → Q v H'
theorem imE {e : Expr} {t t' : TE} (h : PE X e t) (i : ∀ σ H Q, t' σ H Q → t σ H Q) : PE X e t' := ⟨fun pins s σ H Q I q => h.run pins s σ H Q I (i σ H Q q)⟩
theorem imT {e : Expr} {t t' : TT} (h : PT X e t) (i : ∀ σ H Q, t' σ H Q → t σ H Q) : PT X e t' := ⟨fun pins s σ H Q I q => h.run pins s σ H Q I (i σ H Q q)⟩
theorem imA {e : List Expr} {t t' : TA} (h : PA X e t) (i : ∀ σ H Q, t' σ H Q → t σ H Q) : PA X e t' := ⟨fun pos pins s σ H Q I q => h.run pos pins s σ H Q I (i σ H Q q)⟩
theorem imS {e : Stmt} {t t' : TS} (h : PS X e t) (i : ∀ D σ H, t' D σ H → t D σ H) : PS X e t' := ⟨fun pins s σ H D I q => h.run pins s σ H D I (i D σ H q)⟩
theorem imSs {e : List Stmt} {t t' : TS} (h : PSs X e t) (i : ∀ D σ H, t' D σ H → t D σ H) : PSs X e t' := ⟨fun pins s σ H D I q => h.run pins s σ H D I (i D σ H q)⟩
/-! ### what the machine does of values -/
/-- one datum in, no exception -/
def r1 (X : Cx) (f : D → Mem → R D) : V → Hp → VK → Prop := fun x H Q => ∃ m μ a, RelM X m H μ ∧ Rp X.K m x a ∧ Post X (fun _ _ _ _ => False) m H (f a μ) fun d _ m' H' => ∀ v, Rp X.K m' v d → Q v H'
def r2 (X : Cx) (f : D → D → Mem → R D) : R2 := fun x y H Q => ∃ m μ a b, RelM X m H μ ∧ Rp X.K m x a ∧ Rp X.K m y b ∧ Post X (fun _ _ _ _ => False) m H (f a b μ) fun d _ m' H' => ∀ v, Rp X.K m' v d → Q v H'
def rN (X : Cx) (f : List D → Mem → R D) : List V → Hp → VK → Prop := fun x H Q => ∃ m μ a, RelM X m H μ ∧ Rps X.K m x a ∧ Post X (fun _ _ _ _ => False) m H (f a μ) fun d _ m' H' => ∀ v, Rp X.K m' v d → Q v H'
/-- nothing done but a value given -/
theorem PostG.give {m : Mp} {H : Hp} {μ : Mem} {d : D} {Q : VK} {v : V} {Xc : String → Mem → Mp → Hp → Prop} (rel : RelM X m H μ) (h : Post X Xc m H (.ok d μ) fun d _ m' H' => ∀ v, Rp X.K m' v d → Q v H') (r : Rp X.K m v d) : Q v H := h m H (Ext.refl m H) rel v r
/-- a new list -/
theorem PostG.newL {m : Mp} {H : Hp} {μ : Mem} {ds : List D} {xs : List V} {Q : VK} {Xc : String → Mem → Mp → Hp → Prop} (rel : RelM X m H μ) (h : Post X Xc m H (newL ds μ) fun d _ m' H' => ∀ v, Rp X.K m' v d → Q v H') (r : Rps X.K m xs ds) :
    ∀ p, H p = none → Q (.ref p) (upd H p (.lst xs)) := fun p hp => by
  have hf : m.fz p = none := by
    cases e : m.fz p with
    | none => rfl
    | some q => rw [rel.fzH _ _ e] at hp; cases hp
  have l : Le m (m.add μ.length p) := ⟨fun k b h => by
    have := rel.top k b h
    show (if k = μ.length then some p else m.al k) = some b
    rw [if_neg (by omega)]
    exact h, fun _ _ h => h⟩
  obtain ⟨q1, q2⟩ := rel.new (c := .lst ds) hp ⟨xs, upd_same, hf, r.mono l⟩
  exact h _ _ q2 q1 _ (.ref (if_pos rfl))
/-- a new tuple -/
theorem PostG.newT {m : Mp} {H : Hp} {μ : Mem} {ds : List D} {xs : List V} {Q : VK} {Xc : String → Mem → Mp → Hp → Prop} (rel : RelM X m H μ) (h : Post X Xc m H (.ok (.tup ds) μ) fun d _ m' H' => ∀ v, Rp X.K m' v d → Q v H') (r : Rps X.K m xs ds) :
    ∀ p, H p = none → Q (.ref p) (upd H p (.tup xs)) := fun p hp => by
  obtain ⟨q1, q2, _⟩ := rel.newF (o := .tup xs) hp
  exact h _ _ q2 q1 _ (.tup (SqT.of upd_same) (r.mono q2.le))
end
end G
/-! The G machine over the hand layer: operators of values. -/
set_option Elab.async false
set_option linter.all false
set_option maxRecDepth 100000
namespace G
open PySem PySem.Spec L2
theorem line_eq : line = sizeLine := by rw [PySem.sizeLine_eq]; rfl
section
variable {X : Cx}
theorem cut_cutV (xs : List V) (lo hi : Option Int) : cutV xs lo hi = cut xs lo hi := by
  have e : ∀ (n : Nat) (i : Int), HT.sIx n 0 (some i) = bound n i ∧ HT.sIx n n (some i) = bound n i := fun n i => ⟨rfl, rfl⟩
  unfold cutV cut
  cases lo with
  | none => cases hi with
    | none =>
      show (xs.drop 0).take (xs.length - 0) = (xs.take xs.length).drop 0
      simp
    | some j =>
      show (xs.drop 0).take (bound xs.length j - 0) = (xs.take (bound xs.length j)).drop 0
      simp
  | some i => cases hi with
    | none =>
      show (xs.drop (bound xs.length i)).take (xs.length - bound xs.length i) = (xs.take xs.length).drop (bound xs.length i)
      rw [List.drop_take]
    | some j =>
      show (xs.drop (bound xs.length i)).take (bound xs.length j - bound xs.length i) = (xs.take (bound xs.length j)).drop (bound xs.length i)
      rw [List.drop_take]
theorem Rps.cut {m : Mp} {xs : List V} {ds : List D} (r : Rps X.K m xs ds) (lo hi : Option Int) : Rps X.K m (G.cut xs lo hi) (G.cut ds lo hi) := by
  unfold G.cut
  rw [r.len]
  exact (r.take _).drop _
theorem Rps.emp {K : PySem.W.Frag} {m : Mp} {xs : List V} {ds : List D} (r : Rps K m xs ds) : xs = [] ↔ ds = [] := by
  cases r with
  | nil => simp
  | cons _ _ => simp
/-- ints by a rule of the layer -/
theorem op_ints {f : Value → Value → Sem Value} {C : Int → Int → Prop} {g : Int → Int → Int} {h : Int → Int → Option D} (o : OpR X f (rI C fun i j => .int (g i j))) (hh : ∀ i j d, h i j = some d → C i j ∧ d = .int (g i j)) :
    OpR X f (r2 X (ints2 h)) := by
  intro pins s σ H x y v u Q I rx ry ⟨m, μ, a, b, rel, ra, rb, post⟩
  cases a with
  | int i => cases b with
    | int j =>
      cases ra; cases rb
      cases e : h i j with
      | none =>
        simp only [ints2, e] at post
        exact post.elim
      | some d =>
        simp only [ints2, e] at post
        obtain ⟨c, rfl⟩ := hh i j d e
        exact o pins s σ H _ _ v u Q I rx ry ⟨i, j, rfl, rfl, c, post.give rel (.int _)⟩
    | _ => exact post.elim
  | _ => exact post.elim
theorem op_sub' : OpR X (binaryOp .Sub) (r2 X (bin .sub)) := op_ints (C := fun _ _ => True) (g := fun i j => i - j)
  (fun pins s σ H x y v u Q I rx ry ⟨i, j, e1, e2, _, q⟩ => op_sub pins s σ H x y v u Q I rx ry ⟨i, j, e1, e2, q⟩) fun i j d e => ⟨trivial, (Option.some.inj e).symm⟩
theorem op_fdiv' : OpR X (binaryOp .FloorDiv) (r2 X (bin .fdiv)) := op_ints (g := fun i j => i / j) op_fdivW fun i j d e => by
  by_cases h : 0 < j ∧ j < 18446744073709551616
  · rw [if_pos h] at e
    exact ⟨wide_div (b := 64) h.1 (by omega) (by decide) (by decide), (Option.some.inj e).symm⟩
  · rw [if_neg h] at e; cases e
theorem op_mod' : OpR X (binaryOp .Mod) (r2 X (bin .mod)) := op_ints (g := fun i j => i % j) op_mod fun i j d e => by
  by_cases h : 0 < j
  · rw [if_pos h] at e
    exact ⟨h, (Option.some.inj e).symm⟩
  · rw [if_neg h] at e; cases e
theorem op_pow' : OpR X (binaryOp .Pow) (r2 X (bin .pow)) := op_ints (g := fun i j => i ^ j.toNat) op_pow fun i j d e => by
  by_cases h : 0 ≤ j ∧ j ≤ 1000000 ∧ i.natAbs < 2 ^ 64
  · rw [if_pos h] at e
    exact ⟨h, (Option.some.inj e).symm⟩
  · rw [if_neg h] at e; cases e
theorem band_eq {i j : Int} (h : 0 ≤ j) : Builtin.bitAnd i j = bandI i j := by
  unfold bandI
  by_cases hi : 0 ≤ i
  · rw [if_pos hi, PyProof.Rows.bitAnd_pp hi h]
  · rw [if_neg hi, PyProof.Rows.bitAnd_np hi h]
    rfl
theorem op_band' : OpR X (binaryOp .BitAnd) (r2 X (bin .band)) := op_ints (C := fun _ j => 0 ≤ j) (g := fun i j => bandI i j)
  (fun pins s σ H x y v u Q I rx ry ⟨i, j, e1, e2, c, q⟩ => op_and pins s σ H x y v u Q I rx ry ⟨i, j, e1, e2, by
    show Q (.int (Builtin.bitAnd i j)) H
    rw [band_eq c]
    exact q⟩) fun i j d e => by
  by_cases h : 0 ≤ j
  · rw [if_pos h] at e
    exact ⟨h, (Option.some.inj e).symm⟩
  · rw [if_neg h] at e; cases e
/-- list + list, read alone -/
theorem op_catL : OpR X (binaryOp .Add) (fun x y H Q => ∃ l b xs zs, x = .ref l ∧ y = .ref b ∧ SqX X.K H l xs ∧ SqX X.K H b zs ∧ xs.length + zs.length ≤ sizeLine ∧ ∀ p, H p = none → Q (.ref p) (upd H p (.lst (xs ++ zs)))) := by
  intro pins s σ H x y v u Q I rx ry h
  obtain ⟨l, b, xs, zs, rfl, rfl, hH, hB, hz, q⟩ := h
  cases rx
  cases ry
  have at_ : ∀ {l : Addr} {xs : List V}, SqX X.K H l xs → ∃ (its : List Value) (n : Nat), Vals xs its ∧ s.heap.get? l = some { cls := .type "list", data := .seq its.toArray n } := fun {l xs} h => by
    rcases h with h | ⟨its, n, h1, h2, h3⟩
    · obtain ⟨_, its, n, r, e⟩ := h.ok I.hok
      exact ⟨its, n, r, e⟩
    · exact ⟨its.toList, n, h3, by rw [Array.toArray_toList]; exact I.kIn _ _ h1⟩
  obtain ⟨its, n, r, e⟩ := at_ hH
  obtain ⟨its2, n2, r2, e2⟩ := at_ hB
  have l1 := r.length
  have l2 := r2.length
  refine PySem.P.add_list e e2 ?_ (by rw [List.size_toArray, List.size_toArray]; omega)
  have ea : its.toArray ++ its2.toArray = (its ++ its2).toArray := by simp
  rw [ea]
  exact ⟨.ref _, _, I.lnew (t' := s.toks) (r.append r2) (by rw [List.length_append]; omega), rfl, q _ I.fresh⟩
theorem op_add' : OpR X (binaryOp .Add) (r2 X (bin .add)) := by
  intro pins s σ H x y v u Q I rx ry ⟨m, μ, a, b, rel, ra, rb, post⟩
  have lists : ∀ (post : Post X (fun _ _ _ _ => False) m H (addL a b μ) fun d _ m' H' => ∀ v, Rp X.K m' v d → Q v H'), wpAny (model X.prog X.w) X.A (binaryOp .Add v u) (EP X pins σ Q) X.xe s := fun post => by
    unfold addL at post
    cases ea : getL μ a with
    | none => rw [ea] at post; exact post.elim
    | some p =>
      cases eb : getL μ b with
      | none => rw [ea, eb] at post; exact post.elim
      | some q =>
        rw [ea, eb] at post
        by_cases hz : p.length + q.length ≤ line
        · simp only [if_pos hz] at post
          obtain ⟨l, xs, rfl, h1, h2⟩ := rel.getL ra ea
          obtain ⟨l', ys, rfl, h3, h4⟩ := rel.getL rb eb
          exact op_catL pins s σ H _ _ v u Q I rx ry ⟨l, l', xs, ys, rfl, rfl, h1, h3, by rw [h2.len, h4.len, ← line_eq]; exact hz, post.newL rel (h2.app h4)⟩
        · simp only [if_neg hz] at post
          exact post.elim
  cases a with
  | int i => cases b with
    | int j =>
      cases ra; cases rb
      exact op_add pins s σ H _ _ v u Q I rx ry ⟨i, j, rfl, rfl, post.give rel (.int _)⟩
    | _ => exact post.elim
  | str z => cases b with
    | str w =>
      have post : Post X (fun _ _ _ _ => False) m H (if z.length + w.length ≤ line then R.ok (.str (z ++ w)) μ else .bad) fun d _ m' H' => ∀ v, Rp X.K m' v d → Q v H' := post
      by_cases hz : z.length + w.length ≤ line
      · rw [if_pos hz] at post
        cases ra; cases rb
        refine op_add_str pins s σ H _ _ v u Q I rx ry ⟨cs z, cs w, rfl, rfl, by rw [cs_len, cs_len, ← line_eq]; exact hz, ?_⟩
        rw [← cs_append]
        exact post.give rel (.str _ (by rw [List.length_append]; exact hz))
      · rw [if_neg hz] at post
        exact post.elim
    | _ => exact post.elim
  | tup z => cases b with
    | tup w =>
      have post : Post X (fun _ _ _ _ => False) m H (if z ≠ [] ∧ z.length + w.length ≤ line then R.ok (.tup (z ++ w)) μ else .bad) fun d _ m' H' => ∀ v, Rp X.K m' v d → Q v H' := post
      by_cases hz : z ≠ [] ∧ z.length + w.length ≤ line
      · rw [if_pos hz] at post
        obtain ⟨p, xs, rfl, h1, h2⟩ := rel.getT ra
        obtain ⟨q, ys, rfl, h3, h4⟩ := rel.getT rb
        refine op_catT pins s σ H _ _ v u Q I rx ry ⟨p, q, xs, ys, rfl, rfl, h1, h3, fun e => hz.1 (h2.emp.mp e), by rw [h2.len, h4.len, ← line_eq]; exact hz.2, fun e => ?_, fun _ => post.newT rel (h2.app h4)⟩
        have e2 := h4.emp.mp e
        subst e2
        rw [List.append_nil] at post
        exact post.give rel ra
      · rw [if_neg hz] at post
        exact post.elim
    | _ => exact post.elim
  | lst z => exact lists post
  | ref k => exact lists post
  | _ => exact post.elim
theorem flat_rep {α : Type} (l : List α) : ∀ (n : Nat) (acc : List α), (List.replicate n l.toArray).foldl (· ++ ·) acc.toArray = (acc ++ (List.replicate n l).flatten).toArray
  | 0, acc => by simp
  | n + 1, acc => by
    rw [List.replicate_succ, List.foldl_cons, show acc.toArray ++ l.toArray = (acc ++ l).toArray by simp, flat_rep l n (acc ++ l), List.replicate_succ, List.flatten_cons, List.append_assoc]
theorem Rps.rep {K : PySem.W.Frag} {m : Mp} {xs : List V} {ds : List D} (r : Rps K m xs ds) : ∀ n : Nat, Rps K m (List.replicate n xs).flatten (List.replicate n ds).flatten
  | 0 => .nil
  | n + 1 => by
    rw [List.replicate_succ, List.replicate_succ, List.flatten_cons, List.flatten_cons]
    exact r.app (r.rep n)
theorem len_rep {α : Type} (l : List α) : ∀ n : Nat, (List.replicate n l).flatten.length = l.length * n
  | 0 => by simp
  | n + 1 => by
    rw [List.replicate_succ, List.flatten_cons, List.length_append, len_rep l n, Nat.mul_succ]
    omega
/-- a text times an int -/
theorem op_mulS : OpR X (binaryOp .Mult) (fun x y H Q => ∃ z j, x = .str (cs z) ∧ y = .int j ∧ z.length * j.toNat ≤ sizeLine ∧ 0 ≤ j ∧ j < 2 ^ 62 ∧ Q (.str (cs (List.replicate j.toNat z).flatten)) H) := by
  intro pins s σ H x y v u Q I rx ry ⟨z, j, ex, ey, hz, h0, h1, q⟩
  subst ex ey
  obtain ⟨t, rfl⟩ := rx
  obtain ⟨t', rfl⟩ := ry
  have hs : sizeLine = 16777216 := PySem.sizeLine_eq
  have hj : j = ((j.toNat : Nat) : Int) := by omega
  refine PySem.P.mul_str ?_ (fun h2 h3 => ?_) (fun h2 h3 => ?_) ?_
  · rw [decide_eq_false (by omega), decide_eq_false (by omega)]
    rfl
  · intro h4
    rw [cs_len] at h4
    have h5 : z.length * j.toNat ≤ 16777216 := by omega
    have h6 : ((z.length : Int)) * j ≤ 16777216 := by
      have h9 : ((z.length * j.toNat : Nat) : Int) ≤ ((16777216 : Nat) : Int) := Int.ofNat_le.mpr h5
      rw [Int.natCast_mul, ← hj] at h9
      exact h9
    have h7 : (2 ^ 63 - 1) / j < (z.length : Int) := h4
    have h8 : (2 ^ 63 - 1 : Int) < (z.length : Int) * j := by
      have := Int.lt_mul_of_ediv_lt (a := (2 ^ 63 - 1 : Int)) (b := (z.length : Int)) (c := j) (by omega) h7
      exact this
    omega
  · rw [cs_len]
    unfold Builtin.Str.tooLong
    have : ¬ z.length * j.toNat > sizeLine := by omega
    exact decide_eq_false this
  · have val : (⟨(List.replicate j.toNat (cs z).cps).foldl (· ++ ·) #[]⟩ : PySem.Str) = cs (List.replicate j.toNat z).flatten := by
      have := flat_rep (z.map Char.toNat) j.toNat []
      rw [List.nil_append] at this
      have e : (cs z).cps = (z.map Char.toNat).toArray := rfl
      rw [e]
      show (⟨(List.replicate j.toNat (z.map Char.toNat).toArray).foldl (· ++ ·) (([] : List Nat).toArray)⟩ : PySem.Str) = _
      rw [this]
      unfold cs
      congr 2
      have f : ∀ n : Nat, (List.replicate n (z.map Char.toNat)).flatten = ((List.replicate n z).flatten).map Char.toNat := fun n => by
        induction n with
        | zero => rfl
        | succ n ih => rw [List.replicate_succ, List.replicate_succ, List.flatten_cons, List.flatten_cons, List.map_append, ih]
      exact f _
    by_cases h2 : j < 1
    · rw [if_pos h2]
      have e0 : j.toNat = 0 := by omega
      refine ⟨by decide, .str PySem.Str.empty, H, I.tok _, ⟨_, rfl⟩, ?_⟩
      have : cs (List.replicate j.toNat z).flatten = PySem.Str.empty := by rw [e0]; rfl
      rw [this] at q
      exact q
    · rw [if_neg h2]
      by_cases h3 : (j == 1 || (cs z).length == 0) = true
      · rw [if_pos h3]
        refine ⟨.str (cs z), H, I, ⟨t, rfl⟩, ?_⟩
        have : cs (List.replicate j.toNat z).flatten = cs z := by
          rw [Bool.or_eq_true] at h3
          rcases h3 with h3 | h3
          · have : j = 1 := beq_iff_eq.mp h3
            subst this
            show cs (List.replicate 1 z).flatten = cs z
            simp
          · have h4 : (cs z).length = 0 := beq_iff_eq.mp h3
            rw [cs_len] at h4
            have h5 : z = [] := List.length_eq_zero_iff.mp h4
            subst h5
            simp
        rw [this] at q
        exact q
      · rw [if_neg h3, val]
        refine ⟨by rw [cs_len, len_rep]; exact hz, .str _, H, I.tok _, ⟨_, rfl⟩, q⟩
theorem op_mul' : OpR X (binaryOp .Mult) (r2 X (bin .mul)) := by
  intro pins s σ H x y v u Q I rx ry ⟨m, μ, a, b, rel, ra, rb, post⟩
  cases a with
  | int i => cases b with
    | int j =>
      have post : Post X (fun _ _ _ _ => False) m H (if mulOk i j = true then R.ok (.int (i * j)) μ else .bad) fun d _ m' H' => ∀ v, Rp X.K m' v d → Q v H' := post
      by_cases hz : mulOk i j = true
      · rw [if_pos hz] at post
        cases ra; cases rb
        refine op_mul pins s σ H _ _ v u Q I rx ry ⟨i, j, rfl, rfl, ?_, post.give rel (.int _)⟩
        unfold mulOk small at hz
        simp only [Bool.or_eq_true, decide_eq_true_eq] at hz
        rcases hz with hz | hz
        · exact .inl ⟨by omega, by omega⟩
        · exact .inr ⟨by omega, by omega⟩
      · rw [if_neg hz] at post
        exact post.elim
    | _ => exact post.elim
  | str z => cases b with
    | int j =>
      have post : Post X (fun _ _ _ _ => False) m H (if z.length * j.toNat ≤ line ∧ 0 ≤ j ∧ j < 2 ^ 62 then R.ok (.str ((List.replicate j.toNat z).flatten)) μ else .bad) fun d _ m' H' => ∀ v, Rp X.K m' v d → Q v H' := post
      by_cases hz : z.length * j.toNat ≤ line ∧ 0 ≤ j ∧ j < 2 ^ 62
      · rw [if_pos hz] at post
        cases ra; cases rb
        exact op_mulS pins s σ H _ _ v u Q I rx ry ⟨z, j, rfl, rfl, by rw [← line_eq]; exact hz.1, hz.2.1, hz.2.2, post.give rel (.str _ (by rw [len_rep]; exact hz.1))⟩
      · rw [if_neg hz] at post
        exact post.elim
    | _ => exact post.elim
  | ref k => cases b with
    | int j =>
      cases e : μ[k]? with
      | none => simp only [bin, mulD, mulL, G.getL, e] at post; exact post.elim
      | some c =>
        obtain ⟨p, rfl, hk, cc⟩ := rel.at_ ra e
        cases c with
        | lst ds =>
          have post : Post X (fun _ _ _ _ => False) m H (if ds.length * j.toNat ≤ line ∧ -(2 ^ 63) ≤ j ∧ j < 2 ^ 63 then newL ((List.replicate j.toNat ds).flatten) μ else .bad) fun d _ m' H' => ∀ v, Rp X.K m' v d → Q v H' := by
            simp only [bin, mulD, mulL, G.getL, e] at post
            exact post
          by_cases hz : ds.length * j.toNat ≤ line ∧ -(2 ^ 63) ≤ j ∧ j < 2 ^ 63
          · rw [if_pos hz] at post
            obtain ⟨xs, h1, _, h3⟩ := cc
            cases rb
            refine op_rep pins s σ H _ _ v u Q I rx ry ⟨p, j, xs, rfl, rfl, h1, hz.2.1, hz.2.2, by rw [h3.len, ← line_eq]; exact hz.1, post.newL rel (h3.rep _)⟩
          · rw [if_neg hz] at post
            exact post.elim
        | fz ds =>
          have post : Post X (fun _ _ _ _ => False) m H (if ds.length * j.toNat ≤ line ∧ -(2 ^ 63) ≤ j ∧ j < 2 ^ 63 then newL ((List.replicate j.toNat ds).flatten) μ else .bad) fun d _ m' H' => ∀ v, Rp X.K m' v d → Q v H' := by
            simp only [bin, mulD, mulL, G.getL, e] at post
            exact post
          by_cases hz : ds.length * j.toNat ≤ line ∧ -(2 ^ 63) ≤ j ∧ j < 2 ^ 63
          · rw [if_pos hz] at post
            obtain ⟨xs, h1, h3⟩ := cc
            cases rb
            refine op_rep pins s σ H _ _ v u Q I rx ry ⟨p, j, xs, rfl, rfl, rel.fzH _ _ h1, hz.2.1, hz.2.2, by rw [h3.len, ← line_eq]; exact hz.1, post.newL rel (h3.rep _)⟩
          · rw [if_neg hz] at post
            exact post.elim
        | dict _ => simp only [bin, mulD, mulL, G.getL, e] at post; exact post.elim
        | obj _ _ => simp only [bin, mulD, mulL, G.getL, e] at post; exact post.elim
    | _ => exact post.elim
  | _ => exact post.elim
end
end G
/-! The G machine over the hand layer: comparisons, truth. -/
set_option Elab.async false
set_option linter.all false
set_option maxRecDepth 100000
namespace G
open PySem PySem.Spec L2
/-! ### data of the library -/
mutual
def toPy : D → PyData
  | .non => .none
  | .bl b => .bool b
  | .int i => .int i
  | .str x => .str (cs x)
  | .tup ds => .tuple (toPys ds)
  | .lst ds => .list (toPys ds)
  | .ref _ => .none
def toPys : List D → List PyData
  | [] => []
  | d :: ds => toPy d :: toPys ds
end
theorem cs_ok (x : Tx) : PyData.strOk (cs x) = true := by
  unfold PyData.strOk
  rw [← Array.all_toList, cs_cps, List.all_eq_true]
  intro n hn
  obtain ⟨c, _, rfl⟩ := List.mem_map.mp hn
  have h := c.valid
  have h2 : c.toNat < 1114112 := by
    rcases h with h | h
    · show c.val.toNat < 1114112
      have : c.val.toNat < 55296 := h
      omega
    · exact h.2
  exact decide_eq_true h2
mutual
theorem toPy_lay : ∀ d : D, (toPy d).canLay0 = true
  | .non => by simp [toPy, PyData.canLay0]
  | .bl _ => by simp [toPy, PyData.canLay0]
  | .int _ => by simp [toPy, PyData.canLay0]
  | .str x => by simp only [toPy, PyData.canLay0, cs_ok]
  | .tup ds => by simp only [toPy, PyData.canLay0]; exact toPys_lay ds
  | .lst ds => by simp only [toPy, PyData.canLay0]; exact toPys_lay ds
  | .ref _ => by simp [toPy, PyData.canLay0]
theorem toPys_lay : ∀ ds : List D, PyData.canLayAll0 (toPys ds) = true
  | [] => by simp [toPys, PyData.canLayAll0]
  | d :: ds => by simp only [toPys, PyData.canLayAll0, toPy_lay d, toPys_lay ds, Bool.and_self]
end
mutual
theorem toPy_depth : ∀ d : D, (toPy d).depth = d.depth
  | .non => by simp [toPy, PyData.depth, D.depth]
  | .bl _ => by simp [toPy, PyData.depth, D.depth]
  | .int _ => by simp [toPy, PyData.depth, D.depth]
  | .str x => by simp [toPy, PyData.depth, D.depth]
  | .tup ds => by simp only [toPy, PyData.depth, D.depth, toPys_depth ds]
  | .lst ds => by simp only [toPy, PyData.depth, D.depth, toPys_depth ds]
  | .ref _ => by simp [toPy, PyData.depth, D.depth]
theorem toPys_depth : ∀ ds : List D, PyData.depthAll (toPys ds) = D.depths ds
  | [] => by simp [toPys, PyData.depthAll, D.depths]
  | d :: ds => by simp only [toPys, PyData.depthAll, D.depths, toPy_depth d, toPys_depth ds]
end
theorem cs_beq (x y : Tx) : (cs x == cs y) = (x == y) := by
  rw [Bool.eq_iff_iff, beq_iff_eq, beq_iff_eq, cs_eq]
mutual
theorem eqv_py : ∀ a b : D, a.noref = true → b.noref = true → PyData.eqv (toPy a) (toPy b) = a.eqv b
  | .non, b, _, h => by cases b <;> first | (simp [D.noref] at h; done) | simp [toPy, PyData.eqv, D.eqv]
  | .bl _, b, _, h => by cases b <;> first | (simp [D.noref] at h; done) | simp [toPy, PyData.eqv, D.eqv, b2i]
  | .int _, b, _, h => by cases b <;> first | (simp [D.noref] at h; done) | simp [toPy, PyData.eqv, D.eqv, b2i]
  | .str x, b, _, h => by cases b <;> first | (simp [D.noref] at h; done) | simp only [toPy, PyData.eqv, D.eqv, cs_beq]
  | .tup x, b, ha, h => by
    cases b with
    | tup y => simp only [toPy, PyData.eqv, D.eqv]; exact eqvs_py x y (by simpa [D.noref] using ha) (by simpa [D.noref] using h)
    | ref _ => simp [D.noref] at h
    | _ => simp [toPy, PyData.eqv, D.eqv]
  | .lst x, b, ha, h => by
    cases b with
    | lst y => simp only [toPy, PyData.eqv, D.eqv]; exact eqvs_py x y (by simpa [D.noref] using ha) (by simpa [D.noref] using h)
    | ref _ => simp [D.noref] at h
    | _ => simp [toPy, PyData.eqv, D.eqv]
  | .ref _, _, h, _ => by simp [D.noref] at h
theorem eqvs_py : ∀ a b : List D, D.norefs a = true → D.norefs b = true → PyData.eqvAll (toPys a) (toPys b) = D.eqvs a b
  | [], [], _, _ => by simp [toPys, PyData.eqvAll, D.eqvs]
  | [], _ :: _, _, _ => by simp [toPys, PyData.eqvAll, D.eqvs]
  | _ :: _, [], _, _ => by simp [toPys, PyData.eqvAll, D.eqvs]
  | a :: as, b :: bs, ha, hb => by
    simp only [D.norefs, Bool.and_eq_true] at ha hb
    simp only [toPys, PyData.eqvAll, D.eqvs, eqv_py a b ha.1 hb.1, eqvs_py as bs ha.2 hb.2]
end
section
variable {X : Cx} {m : Mp} {H : Hp} {μ : Mem}
mutual
theorem Rp.dp (rel : RelM X m H μ) : ∀ (d : D) (v : V), Rp X.K m v d → d.noref = true → Dp X.K H v (toPy d)
  | .non, _, h, _ => by cases h; simp only [toPy]; exact .non
  | .bl _, _, h, _ => by cases h; simp only [toPy]; exact .bl _
  | .int _, _, h, _ => by cases h; simp only [toPy]; exact .int _
  | .str _, _, h, _ => by cases h with | str _ hx => simp only [toPy]; exact .str _
  | .tup ds, _, h, n => by
    cases h with
    | tup h1 h2 => simp only [toPy]; exact .tup (rel.sqT h1) (Rps.dp rel ds _ h2 (by simpa [D.noref] using n))
  | .lst ds, _, h, n => by
    cases h with
    | lst h1 h2 => simp only [toPy]; exact .lst (rel.sqX h1).l (Rps.dp rel ds _ h2 (by simpa [D.noref] using n))
  | .ref _, _, _, n => by simp [D.noref] at n
theorem Rps.dp (rel : RelM X m H μ) : ∀ (ds : List D) (vs : List V), Rps X.K m vs ds → D.norefs ds = true → DpAll X.K H vs (toPys ds)
  | [], _, h, _ => by cases h; simp only [toPys]; exact .nil
  | d :: ds, _, h, n => by
    cases h with
    | cons h1 h2 =>
      simp only [D.norefs, Bool.and_eq_true] at n
      simp only [toPys]
      exact .cons (Rp.dp rel d _ h1 n.1) (Rps.dp rel ds _ h2 n.2)
end
theorem RelG.dpLook (rel : RelM X m H μ) {d : D} {v : V} (r : Rp X.K m v d) (n : (look μ d).noref = true) : Dp X.K H v (toPy (look μ d)) := by
  cases d with
  | ref k =>
    cases e : μ[k]? with
    | none => simp [look, e, D.noref] at n
    | some c =>
      obtain ⟨p, rfl, hk, cc⟩ := rel.at_ r e
      cases c with
      | lst ds =>
        obtain ⟨xs, h1, _, h3⟩ := cc
        simp only [look, e, D.noref] at n ⊢
        simp only [toPy]
        exact .lst (SqL.of h1) (Rps.dp rel ds _ h3 n)
      | fz ds =>
        obtain ⟨xs, h1, h3⟩ := cc
        simp only [look, e, D.noref] at n ⊢
        simp only [toPy]
        exact .lst (SqL.of (rel.fzH _ _ h1)) (Rps.dp rel ds _ h3 n)
      | dict _ => simp [look, e, D.noref] at n
      | obj _ _ => simp [look, e, D.noref] at n
  | _ => exact Rp.dp rel _ _ r n
/-! ### == and != -/
theorem kGet_valV {K : PySem.W.Frag} : ∀ {ys : List (L2.Key × V)} {kvs : List (Key × D)} (k : Key), KRp K m ys kvs → match kGet k kvs with
    | none => valV ys (kk k) = none
    | some d => ∃ v, valV ys (kk k) = some v ∧ Rp K m v d
  | _, _, k, .nil => by
    show valV [] (kk k) = none
    rfl
  | (a, v) :: ys, (b, d) :: kvs, k, .cons ⟨r1, _, r2⟩ t => by
    have ih := kGet_valV k t
    have r1 : a = kk b := r1
    subst r1
    by_cases e : b = k
    · subst e
      simp only [kGet, if_true]
      exact ⟨v, valV_pos rfl, r2⟩
    · simp only [kGet, if_neg e]
      have ne : ¬ ((kk b, v) : L2.Key × V).1 = kk k := fun h => e (kk_inj h)
      rw [valV_neg ne]
      exact ih
theorem look_at (rel : RelM X m H μ) {pins : List (Addr × Obj)} {σ : L2.St} {s : Shared} (I : L2.Inv X pins σ H s) {a b : D} {x y : V} {v u : Value} {A : Around} (ra : Rp X.K m x a) (rb : Rp X.K m y b) (rx : RelV x v) (ry : RelV y u) (ha : (look μ a).noref = true) (hb : (look μ b).noref = true)
    (hd : A.units + min (look μ a).depth (look μ b).depth < cLine) : SeqAt.EqAt A s v u ((look μ a).eqv (look μ b)) := by
  obtain ⟨as, r1⟩ := Dp.reads I _ x v (rel.dpLook ra ha) rx
  obtain ⟨bs, r2⟩ := Dp.reads I _ y u (rel.dpLook rb hb) ry
  rw [← eqv_py _ _ ha hb]
  exact SeqAt.eqAt_reads _ _ A s v u as bs r1 r2 (toPy_lay _) (toPy_lay _) (by rw [toPy_depth, toPy_depth]; exact hd)
theorem dict_hits (rel : RelM X m H μ) {pins : List (Addr × Obj)} {σ : L2.St} {s : Shared} (I : L2.Inv X pins σ H s) {A : Around} (hu : A.units + 63 < cLine) {yb : List (L2.Key × V)} {vb : List (L2.Key × Value)} {kb : List (Key × D)} (rb : KRp X.K m yb kb) (kvb : L2.KV yb vb) (okb : kb.all (fun p => valOk μ p.2) = true) :
    ∀ {ya : List (L2.Key × V)} {va : List (L2.Key × Value)} {ka : List (Key × D)}, KRp X.K m ya ka → L2.KV ya va → ka.all (fun p => valOk μ p.2) = true → PySem.W.KeqHits A s vb va (eqPairs μ kb ka)
  | [], _, [], .nil, h, _ => by
    cases h
    exact .nil
  | (key, w) :: ya, _, (k, d) :: ka, .cons ⟨r1, _, r2⟩ t, h, ok => by
    cases h with
    | @cons p q ps qs h1 h2 =>
      have r1 : key = kk k := r1
      subst r1
      obtain ⟨q1, v⟩ := q
      have e1 : kk k = q1 := h1.1
      subst e1
      have rv : RelV w v := h1.2
      simp only [List.all_cons, Bool.and_eq_true] at ok
      have ih := dict_hits rel I hu rb kvb okb t h2 ok.2
      have hv := kGet_valV k rb
      have hval := kvb.val (kk k)
      unfold eqPairs
      cases e : kGet k kb with
      | none =>
        rw [e] at hv
        rw [hv] at hval
        exact .miss hval.none_of
      | some d2 =>
        rw [e] at hv
        obtain ⟨w2, hw, rw2⟩ := hv
        rw [hw] at hval
        obtain ⟨u2, hu2, ru2⟩ := hval.some_of
        have okd : valOk μ d2 = true := by
          have hm : ∀ {l : List (Key × D)}, kGet k l = some d2 → l.all (fun p => valOk μ p.2) = true → valOk μ d2 = true := fun {l} => by
            induction l with
            | nil => intro h; cases h
            | cons p l ih =>
              intro h h'
              simp only [List.all_cons, Bool.and_eq_true] at h'
              obtain ⟨j, dd⟩ := p
              unfold kGet at h
              split at h
              · cases h
                exact h'.1
              · exact ih h h'.2
          exact hm e okb
        have o1 := ok.1
        unfold valOk at o1 okd
        simp only [Bool.and_eq_true, decide_eq_true_eq] at o1 okd
        exact .hit hu2 (look_at rel I r2 rw2 rv ru2 o1.1 okd.1 (by omega)) ih
theorem dict_cell (rel : RelM X m H μ) {a : D} {x : V} {ka : List (Key × D)} (ra : Rp X.K m x a) (h : dictOf μ a = some ka) : ∃ p ys, x = .ref p ∧ H p = some (.dK ys) ∧ KRp X.K m ys ka := by
  unfold dictOf at h
  cases a with
  | ref k =>
    simp only [] at h
    split at h
    · next kvs e =>
      cases h
      obtain ⟨p, rfl, hk, ys, h1, h2, h3⟩ := rel.at_ ra e
      exact ⟨p, ys, rfl, h1, h3⟩
    · cases h
  | _ => cases h
theorem op_eq' (hu : X.A.units + 64 < cLine) : OpR X (compareOp .Eq) (r2 X (cmpR .eq)) := by
  intro pins s σ H x y v u Q I rx ry ⟨m, μ, a, b, rel, ra, rb, post⟩
  simp only [cmpR, cmpD] at post
  cases e : eqD μ a b with
  | none => rw [e] at post; exact post.elim
  | some c =>
    rw [e] at post
    have fin : Q (.bl c) H := post.give rel (.bl c)
    unfold eqD at e
    cases ea : dictOf μ a with
    | none =>
      rw [ea] at e
      simp only [eqSeq] at e
      split at e
      · next cc =>
        simp only [Bool.and_eq_true, decide_eq_true_eq] at cc
        cases e
        obtain ⟨as, r1⟩ := Dp.reads I _ x v (rel.dpLook ra cc.1.1) rx
        obtain ⟨bs, r2⟩ := Dp.reads I _ y u (rel.dpLook rb cc.1.2) ry
        refine SeqAt.compareEq_reads r1 r2 (toPy_lay _) (toPy_lay _) ?_ ⟨.bl _, H, I, rfl, ?_⟩
        · rw [toPy_depth, toPy_depth]
          have := cc.2
          omega
        · rw [eqv_py _ _ cc.1.1 cc.1.2]
          exact fin
      · cases e
    | some ka =>
      rw [ea] at e
      cases eb : dictOf μ b with
      | none => rw [eb] at e; cases e
      | some kb =>
        rw [eb] at e
        simp only [] at e
        split at e
        · next cc =>
          rw [Bool.and_eq_true] at cc
          cases e
          obtain ⟨p, ya, rfl, h1, q1⟩ := dict_cell rel ra ea
          obtain ⟨p2, yb, rfl, h2, q2⟩ := dict_cell rel rb eb
          cases rx
          cases ry
          obtain ⟨_, na, va, kva, da⟩ := (show ObjOk X.prog X.w H s.heap p (.dK ya) from I.hok p _ h1)
          obtain ⟨_, nb, vb, kvb, db⟩ := (show ObjOk X.prog X.w H s.heap p2 (.dK yb) from I.hok p2 _ h2)
          refine PySem.W.keq_eq (knd := mixKind X.prog X.w) na nb da db (by omega) (fun _ => dict_hits rel I (by show X.A.units + 1 + 63 < cLine; omega) q2 kvb cc.2 q1 kva cc.1) ⟨.bl _, H, I, rfl, ?_⟩
          have e1 : (va.length == vb.length) = decide (ka.length = kb.length) := by rw [← kva.length, ← kvb.length, q1.length, q2.length]; rfl
          rw [e1]
          exact fin
        · cases e
theorem op_ne' (hu : X.A.units + 64 < cLine) : OpR X (compareOp .NotEq) (r2 X (cmpR .ne)) := by
  intro pins s σ H x y v u Q I rx ry ⟨m, μ, a, b, rel, ra, rb, post⟩
  simp only [cmpR, cmpD] at post
  cases e : eqD μ a b with
  | none => rw [e] at post; exact post.elim
  | some c =>
    rw [e] at post
    have fin : Q (.bl (!c)) H := post.give rel (.bl (!c))
    unfold eqD at e
    cases ea : dictOf μ a with
    | none =>
      rw [ea] at e
      simp only [eqSeq] at e
      split at e
      · next cc =>
        simp only [Bool.and_eq_true, decide_eq_true_eq] at cc
        cases e
        obtain ⟨as, r1⟩ := Dp.reads I _ x v (rel.dpLook ra cc.1.1) rx
        obtain ⟨bs, r2⟩ := Dp.reads I _ y u (rel.dpLook rb cc.1.2) ry
        refine SeqAt.compareNe_reads r1 r2 (toPy_lay _) (toPy_lay _) ?_ ⟨.bl _, H, I, rfl, ?_⟩
        · rw [toPy_depth, toPy_depth]
          have := cc.2
          omega
        · rw [eqv_py _ _ cc.1.1 cc.1.2]
          exact fin
      · cases e
    | some ka =>
      rw [ea] at e
      cases eb : dictOf μ b with
      | none => rw [eb] at e; cases e
      | some kb =>
        rw [eb] at e
        simp only [] at e
        split at e
        · next cc =>
          rw [Bool.and_eq_true] at cc
          cases e
          obtain ⟨p, ya, rfl, h1, q1⟩ := dict_cell rel ra ea
          obtain ⟨p2, yb, rfl, h2, q2⟩ := dict_cell rel rb eb
          cases rx
          cases ry
          obtain ⟨_, na, va, kva, da⟩ := (show ObjOk X.prog X.w H s.heap p (.dK ya) from I.hok p _ h1)
          obtain ⟨_, nb, vb, kvb, db⟩ := (show ObjOk X.prog X.w H s.heap p2 (.dK yb) from I.hok p2 _ h2)
          refine PySem.W.keq_ne (knd := mixKind X.prog X.w) na nb da db (by omega) (fun _ => dict_hits rel I (by show X.A.units + 1 + 63 < cLine; omega) q2 kvb cc.2 q1 kva cc.1) ⟨.bl _, H, I, rfl, ?_⟩
          have e1 : (va.length == vb.length) = decide (ka.length = kb.length) := by rw [← kva.length, ← kvb.length, q1.length, q2.length]; rfl
          rw [e1]
          exact fin
        · cases e
/-! ### orders -/
theorem txLt_iff : ∀ x y : Tx, txLt x y = true ↔ x.map Char.toNat < y.map Char.toNat
  | x, [] => by cases x <;> simp [txLt]
  | [], _ :: _ => by simp [txLt]
  | a :: as, b :: bs => by
    have ih := txLt_iff as bs
    have e1 : a < b ↔ a.toNat < b.toNat := Iff.rfl
    have e2 : a = b ↔ a.toNat = b.toNat := ⟨fun h => by rw [h], charNat_inj⟩
    simp only [txLt, Bool.or_eq_true, Bool.and_eq_true, decide_eq_true_eq, beq_iff_eq, ih, List.map_cons, List.cons_lt_cons_iff, e1, e2]
theorem txLt_dec (x y : Tx) : decide ((cs x).cps.toList < (cs y).cps.toList) = txLt x y := by
  rw [cs_cps, cs_cps, Bool.eq_iff_iff, decide_eq_true_eq, txLt_iff]
/-- an order by the layer's two rules -/
theorem op_ord {f : Value → Value → Sem Value} {op : Cmp} {gi : Int → Int → Bool} {gs : Tx → Tx → Bool} (hd : ∀ a b μ, cmpD op a b μ = match a, b with
      | .int i, .int j => some (gi i j)
      | .str x, .str y => some (gs x y)
      | _, _ => none)
    (o1 : OpR X f (rI0 fun i j => .bl (gi i j))) (o2 : OpR X f (fun x y H Q => ∃ i j, x = .str (cs i) ∧ y = .str (cs j) ∧ Q (.bl (gs i j)) H)) : OpR X f (r2 X (cmpR op)) := by
  intro pins s σ H x y v u Q I rx ry ⟨m, μ, a, b, rel, ra, rb, post⟩
  cases a with
  | int i => cases b with
    | int j =>
      cases ra; cases rb
      simp only [cmpR, hd] at post
      exact o1 pins s σ H _ _ v u Q I rx ry ⟨i, j, rfl, rfl, post.give rel (.bl _)⟩
    | _ => simp only [cmpR, hd] at post; exact post.elim
  | str i => cases b with
    | str j =>
      cases ra; cases rb
      simp only [cmpR, hd] at post
      exact o2 pins s σ H _ _ v u Q I rx ry ⟨i, j, rfl, rfl, post.give rel (.bl _)⟩
    | _ => simp only [cmpR, hd] at post; exact post.elim
  | _ => simp only [cmpR, hd] at post; exact post.elim
theorem op_lt' : OpR X (compareOp .Lt) (r2 X (cmpR .lt)) := op_ord (gi := fun i j => decide (i < j)) (gs := fun x y => txLt x y) (fun a b μ => by cases a <;> cases b <;> rfl) op_lt
  fun pins s σ H x y v u Q I rx ry ⟨i, j, e1, e2, q⟩ => op_lt_str pins s σ H x y v u Q I rx ry ⟨cs i, cs j, e1, e2, by rw [txLt_dec]; exact q⟩
theorem op_gt' : OpR X (compareOp .Gt) (r2 X (cmpR .gt)) := op_ord (gi := fun i j => decide (j < i)) (gs := fun x y => txLt y x) (fun a b μ => by cases a <;> cases b <;> rfl) op_gt
  fun pins s σ H x y v u Q I rx ry ⟨i, j, e1, e2, q⟩ => op_gt_str pins s σ H x y v u Q I rx ry ⟨cs i, cs j, e1, e2, by rw [txLt_dec]; exact q⟩
theorem op_le' : OpR X (compareOp .LtE) (r2 X (cmpR .le)) := op_ord (gi := fun i j => decide (i ≤ j)) (gs := fun x y => !txLt y x) (fun a b μ => by cases a <;> cases b <;> rfl) op_le
  fun pins s σ H x y v u Q I rx ry ⟨i, j, e1, e2, q⟩ => op_le_str pins s σ H x y v u Q I rx ry ⟨cs i, cs j, e1, e2, by rw [txLt_dec]; exact q⟩
theorem op_ge' : OpR X (compareOp .GtE) (r2 X (cmpR .ge)) := op_ord (gi := fun i j => decide (j ≤ i)) (gs := fun x y => !txLt x y) (fun a b μ => by cases a <;> cases b <;> rfl) op_ge
  fun pins s σ H x y v u Q I rx ry ⟨i, j, e1, e2, q⟩ => op_ge_str pins s σ H x y v u Q I rx ry ⟨cs i, cs j, e1, e2, by rw [txLt_dec]; exact q⟩
/-! ### is None -/
theorem op_isnone' : OpR X (compareOp .Is) (r2 X (cmpR .isnone)) := by
  intro pins s σ H x y v u Q I rx ry ⟨m, μ, a, b, rel, ra, rb, post⟩
  cases b with
  | non =>
    cases rb
    refine op_isN pins s σ H x _ v u Q I rx ry ⟨rfl, ?_⟩
    cases a with
    | non =>
      cases ra
      exact post.give rel (.bl _)
    | _ =>
      have hx : decide (x = V.non) = false := by cases ra <;> rfl
      rw [hx]
      exact post.give rel (.bl _)
  | _ => exact post.elim
theorem op_notnone' : OpR X (compareOp .IsNot) (r2 X (cmpR .notnone)) := by
  intro pins s σ H x y v u Q I rx ry ⟨m, μ, a, b, rel, ra, rb, post⟩
  cases b with
  | non =>
    cases rb
    refine op_notN pins s σ H x _ v u Q I rx ry ⟨rfl, ?_⟩
    cases a with
    | non =>
      cases ra
      exact post.give rel (.bl _)
    | _ =>
      have hx : decide (x = V.non) = false := by cases ra <;> rfl
      rw [hx]
      exact post.give rel (.bl _)
  | _ => exact post.elim
/-! ### in -/
theorem keyOf_V {K : PySem.W.Frag} {a : D} {v : V} {k : Key} (r : Rp K m v a) (h : keyOf a = some k) : v = kV (kk k) := by
  cases a with
  | int i =>
    cases r
    cases h
    rfl
  | str x =>
    cases r
    cases h
    rfl
  | _ => cases h
theorem flat_V {K : PySem.W.Frag} {a : D} {v : V} (r : Rp K m v a) (h : flat a = true) : flatV v = true := by
  cases r <;> first | rfl | cases h
theorem flats_V {K : PySem.W.Frag} : ∀ {xs : List V} {ds : List D}, Rps K m xs ds → ds.all flat = true → xs.all flatV = true
  | _, _, .nil, _ => rfl
  | _, _, .cons r t, h => by
    rw [List.all_cons, Bool.and_eq_true] at h ⊢
    exact ⟨flat_V r h.1, flats_V t h.2⟩
theorem eqV_eqv {K : PySem.W.Frag} {a b : D} {v w : V} (ra : Rp K m v a) (rb : Rp K m w b) (ha : flat a = true) (hb : flat b = true) : eqV v w = a.eqv b := by
  cases ra with
  | non => cases rb with
    | non => rfl
    | bl _ => rfl
    | int _ => rfl
    | str _ => rfl
    | _ => cases hb
  | bl x => cases rb with
    | non => rfl
    | bl _ => rfl
    | int _ => rfl
    | str _ => rfl
    | _ => cases hb
  | int x => cases rb with
    | non => rfl
    | bl _ => rfl
    | int _ => rfl
    | str _ => rfl
    | _ => cases hb
  | str x => cases rb with
    | non => rfl
    | bl _ => rfl
    | int _ => rfl
    | str y =>
      show (cs x == cs y) = (x == y)
      exact cs_beq x y
    | _ => cases hb
  | _ => cases ha
theorem inV_any {K : PySem.W.Frag} {a : D} {v : V} (ra : Rp K m v a) (ha : flat a = true) : ∀ {xs : List V} {ds : List D}, Rps K m xs ds → ds.all flat = true → inV v xs = ds.any fun d => d.eqv a
  | _, _, .nil, _ => rfl
  | _, _, .cons r t, h => by
    rw [List.all_cons, Bool.and_eq_true] at h
    have ih := inV_any ra ha t h.2
    unfold inV at ih ⊢
    rw [List.any_cons, List.any_cons, ih, eqV_eqv r ra h.1 ha]
/-- in, by what the machine says; neg: not in -/
theorem op_in_gen (neg : Bool) {cop : CmpOp} (hu : X.A.units + 64 < cLine) (o1 : OpR X (compareOp cop) (rIn X.K neg))
    (o2 : OpR X (compareOp cop) (fun x y H Q => ∃ (c : Nat) (z : PySem.Str), x = .str ⟨#[c]⟩ ∧ y = .str z ∧ Q (.bl (if neg then !decide (c ∈ z.cps.toList) else decide (c ∈ z.cps.toList))) H))
    (o3 : OpR X (compareOp cop) (fun x y H Q => ∃ a o, y = .ref a ∧ DGet H a x o ∧ Q (.bl (if neg then !o.isSome else o.isSome)) H)) :
    OpR X (compareOp cop) (r2 X fun a b μ => match inD μ a b with
      | some c => .ok (.bl (if neg then !c else c)) μ
      | none => .bad) := by
  intro pins s σ H x y v u Q I rx ry ⟨m, μ, a, b, rel, ra, rb, post⟩
  have seq : ∀ {p : Addr} {xs : List V} {ds : List D}, y = .ref p → (SqL X.K H p xs ∨ SqT X.K H p xs) → Rps X.K m xs ds → (inD μ a b = if flat a && ds.all flat then some (ds.any fun d => d.eqv a) else none) → wpAny (model X.prog X.w) X.A (compareOp cop v u) (EP X pins σ Q) X.xe s := fun {p xs ds} e h1 h2 h3 => by
    by_cases c : (flat a && ds.all flat) = true
    · rw [if_pos c] at h3
      rw [Bool.and_eq_true] at c
      simp only [h3] at post
      refine o1 pins s σ H x y v u Q I rx ry ⟨p, xs, e, h1, flat_V ra c.1, flats_V h2 c.2, ?_⟩
      rw [inV_any ra c.1 h2 c.2]
      exact post.give rel (.bl _)
    · rw [if_neg c] at h3
      simp only [h3] at post
      exact post.elim
  cases b with
  | str z => cases a with
    | str w =>
      cases w with
      | nil => exact post.elim
      | cons c w => cases w with
        | nil =>
          cases ra; cases rb
          refine o2 pins s σ H _ _ v u Q I rx ry ⟨c.toNat, cs z, rfl, rfl, ?_⟩
          have e : decide (c.toNat ∈ (cs z).cps.toList) = z.contains c := by
            rw [cs_cps, Bool.eq_iff_iff, decide_eq_true_eq, List.contains_iff_mem, List.mem_map]
            exact ⟨fun ⟨d, h1, h2⟩ => by rw [← charNat_inj h2]; exact h1, fun h => ⟨c, h, rfl⟩⟩
          rw [e]
          exact post.give rel (.bl _)
        | cons _ _ => exact post.elim
    | _ => exact post.elim
  | tup ds =>
    obtain ⟨p, xs, e, h1, h2⟩ := rel.getT rb
    exact seq e (.inr h1) h2 rfl
  | lst ds =>
    obtain ⟨p, xs, e, h1, h2⟩ := rel.getL rb rfl
    exact seq e (.inl h1.l) h2 rfl
  | ref k =>
    cases e : μ[k]? with
    | none => simp only [inD, e] at post; exact post.elim
    | some c =>
      obtain ⟨p, ep, hk, cc⟩ := rel.at_ rb e
      cases c with
      | lst ds =>
        obtain ⟨xs, h1, _, h3⟩ := cc
        exact seq ep (.inl (SqL.of h1)) h3 (by simp only [inD, e])
      | fz ds =>
        obtain ⟨xs, h1, h3⟩ := cc
        exact seq ep (.inl (SqL.of (rel.fzH _ _ h1))) h3 (by simp only [inD, e])
      | dict kvs =>
        obtain ⟨ys, h1, _, h3⟩ := cc
        cases ek : keyOf a with
        | none => simp only [inD, e, ek] at post; exact post.elim
        | some q =>
          simp only [inD, e, ek] at post
          have ev := keyOf_V ra ek
          refine o3 pins s σ H x y v u Q I rx ry ⟨p, valV ys (kk q), ep, by rw [ev]; exact DGet.k h1, ?_⟩
          have g := kGet_valV q h3
          have hs : (valV ys (kk q)).isSome = (kGet q kvs).isSome := by
            cases eg : kGet q kvs with
            | none => rw [eg] at g; rw [show valV ys (kk q) = none from g]; rfl
            | some d => rw [eg] at g; obtain ⟨w, g1, _⟩ := g; rw [g1]; rfl
          rw [hs]
          exact post.give rel (.bl _)
      | obj _ _ => simp only [inD, e] at post; exact post.elim
  | _ => exact post.elim
theorem op_isin' (hu : X.A.units + 64 < cLine) : OpR X (compareOp .In) (r2 X (cmpR .isin)) := by
  intro pins s σ H x y v u Q I rx ry ⟨m, μ, a, b, rel, ra, rb, post⟩
  refine op_in_gen false hu op_in_seq (fun pins s σ H x y v u Q I rx ry ⟨c, z, e1, e2, q⟩ => op_in_sign pins s σ H x y v u Q I rx ry ⟨c, z, e1, e2, q⟩)
    (fun pins s σ H x y v u Q I rx ry ⟨a, o, e1, g, q⟩ => ?_) pins s σ H x y v u Q I rx ry ⟨m, μ, a, b, rel, ra, rb, ?_⟩
  · subst e1
    cases ry
    exact d_in (by omega) I g rx fun s3 I3 => ⟨.bl o.isSome, H, I3, rfl, q⟩
  · unfold cmpR cmpD at post
    show Post X (fun _ _ _ _ => False) m H (match inD μ a b with
      | some c => .ok (.bl (if false = true then !c else c)) μ
      | none => .bad) fun d _ m' H' => ∀ v, Rp X.K m' v d → Q v H'
    cases e : inD μ a b with
    | none => rw [e] at post; exact post.elim
    | some c => rw [e] at post; exact post
theorem op_notin' (hu : X.A.units + 64 < cLine) : OpR X (compareOp .NotIn) (r2 X (cmpR .notin)) := by
  intro pins s σ H x y v u Q I rx ry ⟨m, μ, a, b, rel, ra, rb, post⟩
  refine op_in_gen true hu op_notIn_seq (fun pins s σ H x y v u Q I rx ry ⟨c, z, e1, e2, q⟩ => op_notIn_sign pins s σ H x y v u Q I rx ry ⟨c, z, e1, e2, q⟩)
    (fun pins s σ H x y v u Q I rx ry ⟨a, o, e1, g, q⟩ => ?_) pins s σ H x y v u Q I rx ry ⟨m, μ, a, b, rel, ra, rb, ?_⟩
  · subst e1
    cases ry
    exact d_notIn (by omega) I g rx fun s3 I3 => ⟨.bl (!o.isSome), H, I3, rfl, q⟩
  · unfold cmpR cmpD at post
    show Post X (fun _ _ _ _ => False) m H (match inD μ a b with
      | some c => .ok (.bl (if true = true then !c else c)) μ
      | none => .bad) fun d _ m' H' => ∀ v, Rp X.K m' v d → Q v H'
    cases e : inD μ a b with
    | none => rw [e] at post; exact post.elim
    | some c => rw [e] at post; exact post
/-- any comparison -/
def copOf : Cmp → CmpOp
  | .eq => .Eq
  | .ne => .NotEq
  | .lt => .Lt
  | .le => .LtE
  | .gt => .Gt
  | .ge => .GtE
  | .isin => .In
  | .notin => .NotIn
  | .isnone => .Is
  | .notnone => .IsNot
theorem op_cmp (hu : X.A.units + 64 < cLine) : ∀ op : Cmp, OpR X (compareOp (copOf op)) (r2 X (cmpR op))
  | .eq => op_eq' hu
  | .ne => op_ne' hu
  | .lt => op_lt'
  | .le => op_le'
  | .gt => op_gt'
  | .ge => op_ge'
  | .isin => op_isin' hu
  | .notin => op_notin' hu
  | .isnone => op_isnone'
  | .notnone => op_notnone'
def opOf : Op → Operator
  | .add => .Add
  | .sub => .Sub
  | .mul => .Mult
  | .fdiv => .FloorDiv
  | .mod => .Mod
  | .pow => .Pow
  | .band => .BitAnd
theorem op_bin : ∀ op : Op, OpR X (binaryOp (opOf op)) (r2 X (bin op))
  | .add => op_add'
  | .sub => op_sub'
  | .mul => op_mul'
  | .fdiv => op_fdiv'
  | .mod => op_mod'
  | .pow => op_pow'
  | .band => op_band'
theorem un_neg' : UnR X (unaryOp .USub) (r1 X neg) := by
  intro pins s σ H x v Q I rx ⟨m, μ, a, rel, ra, post⟩
  cases a with
  | int i =>
    cases ra
    exact un_neg pins s σ H _ v Q I rx ⟨i, rfl, post.give rel (.int _)⟩
  | _ => exact post.elim
/-! ### truth -/
theorem tru_of {d : D} {v : V} {b : Bool} (rel : RelM X m H μ) (r : Rp X.K m v d) (h : truth μ d = some b) : TruV X.K v H b := by
  cases d with
  | non => cases r; exact (Option.some.inj h).symm
  | bl c => cases r; exact (Option.some.inj h).symm
  | int i => cases r; exact (Option.some.inj h).symm
  | str x =>
    cases r with
    | str _ hx =>
    refine ⟨by rw [cs_len, ← line_eq]; exact hx, ?_⟩
    rw [← Option.some.inj h, cs_len]
    cases x with
    | nil => rfl
    | cons a x =>
      show true = (((x.length + 1 : Nat) : Int) != 0)
      symm
      rw [bne_iff_ne]
      omega
  | tup ds =>
    obtain ⟨p, xs, rfl, h1, h2⟩ := rel.getT r
    refine .inr (.inl ⟨xs, h1, ?_⟩)
    rw [← Option.some.inj h]
    cases h2 <;> rfl
  | lst ds =>
    obtain ⟨p, xs, rfl, h1, h2⟩ := rel.getL r rfl
    refine .inl ⟨xs, h1.l, ?_⟩
    rw [← Option.some.inj h]
    cases h2 <;> rfl
  | ref k =>
    cases e : μ[k]? with
    | none => simp [truth, e] at h
    | some c =>
      obtain ⟨p, rfl, hk, cc⟩ := rel.at_ r e
      cases c with
      | lst ds =>
        obtain ⟨xs, h1, _, h3⟩ := cc
        simp only [truth, e, Option.some.injEq] at h
        refine .inl ⟨xs, SqL.of h1, ?_⟩
        rw [← h]
        cases h3 <;> rfl
      | fz ds =>
        obtain ⟨xs, h1, h3⟩ := cc
        simp only [truth, e, Option.some.injEq] at h
        refine .inl ⟨xs, SqL.of (rel.fzH _ _ h1), ?_⟩
        rw [← h]
        cases h3 <;> rfl
      | dict kvs =>
        obtain ⟨ys, h1, _, h3⟩ := cc
        simp only [truth, e, Option.some.injEq] at h
        refine .inr (.inr ⟨ys, h1, ?_⟩)
        rw [← h]
        cases h3 <;> rfl
      | obj _ _ => simp [truth, e] at h
end
end G
/-! The G machine over the hand layer: places, slices, built-in functions and methods. -/
set_option Elab.async false
set_option linter.all false
set_option maxRecDepth 100000
namespace G
open PySem PySem.Spec L2 PyProof.Rows
section
variable {X : Cx} {m : Mp} {H : Hp} {μ : Mem}
theorem place_ix (i : Int) (n : Nat) : place i n = ixN n i := by
  unfold place ixN
  by_cases h : 0 ≤ i
  · rw [if_pos h, if_pos h]
  · rw [if_neg h, if_neg h]
    by_cases h2 : 0 ≤ i + n
    · rw [if_pos h2, if_pos (by omega)]
    · rw [if_neg h2, if_neg (by omega)]
theorem Rps.at_ {K : PySem.W.Frag} {xs : List V} {ds : List D} {i : Int} {d : D} (r : Rps K m xs ds) (h : G.at_ ds i = some d) : ∃ v, atI xs i = some v ∧ Rp K m v d := by
  unfold G.at_ at h
  unfold atI
  rw [← r.len, place_ix] at h
  cases e : ixN xs.length i with
  | none => rw [e] at h; cases h
  | some k =>
    rw [e] at h
    exact r.get h
theorem cs_one (c : Char) : cs [c] = (⟨#[c.toNat]⟩ : PySem.Str) := rfl
theorem ix_item (hu : X.A.units + 64 < cLine) : IxR X (r2 X item) := by
  intro value slice pins s σ H x y v u Q I rx ry ⟨m, μ, a, b, rel, ra, rb, post⟩ hs
  have seq : ∀ {p : Addr} {xs : List V} {ds : List D}, x = .ref p → (SqL X.K H p xs ∨ SqT X.K H p xs) → Rps X.K m xs ds → (Post X (fun _ _ _ _ => False) m H (itemL ds b μ) fun d _ m' H' => ∀ v, Rp X.K m' v d → Q v H') → wpAny (model X.prog X.w) X.A (subscriptTail value slice v u) (EP X pins σ Q) X.xe s := fun {p xs ds} e h1 h2 post => by
    cases b with
    | int i =>
      cases ea : G.at_ ds i with
      | none => simp only [itemL, ea] at post; exact post.elim
      | some d =>
        simp only [itemL, ea] at post
        obtain ⟨w, e1, rw'⟩ := h2.at_ ea
        cases rb
        rcases h1 with h1 | h1
        · exact ix_list value slice pins s σ H x _ v u Q I rx ry ⟨p, xs, i, w, e, rfl, h1, e1, post.give rel rw'⟩ hs
        · exact ix_tup value slice pins s σ H x _ v u Q I rx ry ⟨p, xs, i, w, e, rfl, h1, e1, post.give rel rw'⟩ hs
    | _ => exact post.elim
  cases a with
  | str z =>
    cases ra with
    | str _ hz =>
    cases b with
    | int i =>
      cases ea : G.at_ z i with
      | none => simp only [item, ea] at post; exact post.elim
      | some c =>
        simp only [item, ea] at post
        cases rb
        refine ix_str value slice pins s σ H _ _ v u Q I rx ry ⟨cs z, i, c.toNat, rfl, rfl, by rw [cs_len, ← line_eq]; exact hz, ?_, ?_⟩ hs
        · unfold G.at_ at ea
          unfold atI
          rw [cs_cps, List.length_map, ← place_ix]
          cases ep : place i z.length with
          | none => rw [ep] at ea; cases ea
          | some k =>
            rw [ep] at ea
            show (z.map Char.toNat)[k]? = some c.toNat
            rw [List.getElem?_map, show z[k]? = some c from ea]
            rfl
        · rw [← cs_one]
          exact post.give rel (.str _ (by show 1 ≤ line; decide))
    | _ => exact post.elim
  | tup ds =>
    obtain ⟨p, xs, e, h1, h2⟩ := rel.getT ra
    exact seq e (.inr h1) h2 post
  | lst ds =>
    obtain ⟨p, xs, e, h1, h2⟩ := rel.getL ra rfl
    exact seq e (.inl h1.l) h2 post
  | ref k =>
    cases e : μ[k]? with
    | none => simp only [item, e] at post; exact post.elim
    | some c =>
      obtain ⟨p, ep, hk, cc⟩ := rel.at_ ra e
      cases c with
      | lst ds =>
        obtain ⟨xs, h1, _, h3⟩ := cc
        simp only [item, e] at post
        exact seq ep (.inl (SqL.of h1)) h3 post
      | fz ds =>
        obtain ⟨xs, h1, h3⟩ := cc
        simp only [item, e] at post
        exact seq ep (.inl (SqL.of (rel.fzH _ _ h1))) h3 post
      | dict kvs =>
        obtain ⟨ys, h1, _, h3⟩ := cc
        cases ek : keyOf b with
        | none => simp only [item, e, ek] at post; exact post.elim
        | some q =>
          cases eg : kGet q kvs with
          | none => simp only [item, e, ek, eg] at post; exact post.elim
          | some d =>
            simp only [item, e, ek, eg] at post
            have g := kGet_valV q h3
            rw [eg] at g
            obtain ⟨w, g1, g2⟩ := g
            have ey := keyOf_V rb ek
            subst ep
            cases rx
            have dg : DGet H p y (some w) := by
              rw [ey, ← g1]
              exact DGet.k h1
            exact tail_any (dict_typeIs I dg) PySem.F.slot_dict_getitem.lookup (d_getItem (by omega) I dg ry fun w' s3 I3 rw' => ⟨w, H, I3, rw', post.give rel g2⟩) hs
      | obj _ _ => simp only [item, e] at post; exact post.elim
  | _ => exact post.elim
/-! ### slices -/
def rS (X : Cx) : V → Option Int → Option Int → Hp → VK → Prop := fun x lo hi H Q => ∃ m μ a, RelM X m H μ ∧ Rp X.K m x a ∧ Post X (fun _ _ _ _ => False) m H (slice a lo hi μ) fun d _ m' H' => ∀ v, Rp X.K m' v d → Q v H'
theorem cut_map {α β : Type} (f : α → β) (xs : List α) (lo hi : Option Int) : cut (xs.map f) lo hi = (cut xs lo hi).map f := by
  unfold cut
  rw [List.length_map]
  simp only [← List.map_take, ← List.map_drop]
theorem cut_le {α : Type} (xs : List α) (lo hi : Option Int) : (cut xs lo hi).length ≤ xs.length := by
  unfold cut
  simp only [List.length_drop, List.length_take]
  omega
theorem cut_cutS (z : Tx) (lo hi : Option Int) : cutS (cs z) lo hi = cs (cut z lo hi) := by
  have h : (cs z).cps.toList = z.map Char.toNat := cs_cps z
  unfold cutS
  rw [h, cs_len]
  have e : ∀ (n : Nat) (i : Int), HT.sIx n 0 (some i) = bound n i ∧ HT.sIx n n (some i) = bound n i := fun n i => ⟨rfl, rfl⟩
  show (⟨(((z.map Char.toNat).drop (HT.sIx z.length 0 lo)).take (HT.sIx z.length z.length hi - HT.sIx z.length 0 lo)).toArray⟩ : PySem.Str) = ⟨((cut z lo hi).map Char.toNat).toArray⟩
  rw [← cut_map]
  congr 2
  unfold cut
  rw [List.length_map]
  cases lo with
  | none => cases hi with
    | none =>
      show ((z.map Char.toNat).drop 0).take (z.length - 0) = ((z.map Char.toNat).take z.length).drop 0
      simp
    | some j =>
      show ((z.map Char.toNat).drop 0).take (bound z.length j - 0) = ((z.map Char.toNat).take (bound z.length j)).drop 0
      simp
  | some i => cases hi with
    | none =>
      show ((z.map Char.toNat).drop (bound z.length i)).take (z.length - bound z.length i) = ((z.map Char.toNat).take z.length).drop (bound z.length i)
      rw [List.drop_take]
    | some j =>
      show ((z.map Char.toNat).drop (bound z.length i)).take (bound z.length j - bound z.length i) = ((z.map Char.toNat).take (bound z.length j)).drop (bound z.length i)
      rw [List.drop_take]
theorem whole_cut {α : Type} {xs : List α} {lo hi : Option Int} (h : HT.sIx xs.length 0 lo = 0 ∧ HT.sIx xs.length xs.length hi = xs.length) : cut xs lo hi = xs := by
  unfold cut
  cases lo with
  | none => cases hi with
    | none => simp
    | some j =>
      have h2 : bound xs.length j = xs.length := h.2
      simp [h2]
  | some i =>
    have h1 : bound xs.length i = 0 := h.1
    cases hi with
    | none => simp [h1]
    | some j =>
      have h2 : bound xs.length j = xs.length := h.2
      simp [h1, h2]
theorem sl_slice : SlR X (rS X) := by
  intro pins s σ H x v vl vu lo hi sl Q I rx hs pl pu ⟨m, μ, a, rel, ra, post⟩
  cases a with
  | str z =>
    cases ra with
    | str _ hz =>
    refine sl_str pins s σ H _ v vl vu lo hi sl Q I rx hs pl pu ⟨cs z, rfl, by rw [cs_len, ← line_eq]; exact hz, ?_⟩
    rw [cut_cutS]
    exact post.give rel (.str _ (Nat.le_trans (cut_le z lo hi) hz))
  | tup ds =>
    obtain ⟨p, xs, e, h1, h2⟩ := rel.getT ra
    subst e
    refine sl_tupA pins s σ H _ v vl vu lo hi sl Q I rx hs pl pu ⟨p, xs, rfl, h1, fun w => ?_, fun _ => ?_⟩
    · have w' := w
      rw [h2.len] at w'
      have post : Post X (fun _ _ _ _ => False) m H (.ok (.tup (cut ds lo hi)) μ) fun d _ m' H' => ∀ v, Rp X.K m' v d → Q v H' := post
      rw [whole_cut w'] at post
      exact post.give rel ra
    · rw [cut_cutV]
      exact post.newT rel (h2.cut lo hi)
  | lst ds =>
    obtain ⟨p, xs, e, h1, h2⟩ := rel.getL ra rfl
    refine sl_list pins s σ H x v vl vu lo hi sl Q I rx hs pl pu ⟨p, xs, e, h1.l, ?_⟩
    rw [cut_cutV]
    exact post.newL rel (h2.cut lo hi)
  | ref k =>
    cases e : μ[k]? with
    | none => simp only [slice, e] at post; exact post.elim
    | some c =>
      obtain ⟨p, ep, hk, cc⟩ := rel.at_ ra e
      cases c with
      | lst ds =>
        obtain ⟨xs, h1, _, h3⟩ := cc
        simp only [slice, e] at post
        refine sl_list pins s σ H x v vl vu lo hi sl Q I rx hs pl pu ⟨p, xs, ep, SqL.of h1, ?_⟩
        rw [cut_cutV]
        exact post.newL rel (h3.cut lo hi)
      | fz ds =>
        obtain ⟨xs, h1, h3⟩ := cc
        simp only [slice, e] at post
        refine sl_list pins s σ H x v vl vu lo hi sl Q I rx hs pl pu ⟨p, xs, ep, SqL.of (rel.fzH _ _ h1), ?_⟩
        rw [cut_cutV]
        exact post.newL rel (h3.cut lo hi)
      | dict _ => simp only [slice, e] at post; exact post.elim
      | obj _ _ => simp only [slice, e] at post; exact post.elim
  | _ => exact post.elim
/-! ### built-in functions -/
/-- one argument -/
theorem call1 {f : Value} {g : D → Mem → R D} {fn : B} (h : ∀ (pins : List (Addr × Obj)) (s : Shared) (σ : L2.St) (H : Hp) (x : V) (v : Value) (Q : VK), L2.Inv X pins σ H s → RelV x v → r1 X g x H Q → wpAny (model X.prog X.w) X.A (call f [v]) (EP X pins σ Q) X.xe s)
    (e : ∀ as μ, blt fn as μ = match as with
      | [a] => g a μ
      | _ => .bad) : CallR X f (rN X (blt fn)) := by
  intro pins s σ H xs us Q I rs ⟨m, μ, as, rel, ra, post⟩
  rw [e] at post
  cases ra with
  | nil => exact post.elim
  | cons r1 r2 => cases r2 with
    | nil =>
      obtain ⟨u, rfl, rx⟩ := vals1 rs
      exact h pins s σ H _ u Q I rx ⟨m, μ, _, rel, r1, post⟩
    | cons _ _ => exact post.elim
theorem c_len : CallR X (.builtin "len") (rN X (blt .len)) := by
  refine call1 (g := bLen) (fun pins s σ H x v Q I rx ⟨m, μ, a, rel, ra, post⟩ => ?_) fun as μ => by
    cases as with
    | nil => rfl
    | cons a as => cases as <;> rfl
  have seq : ∀ {p : Addr} {xs : List V} {ds : List D}, x = .ref p → (SqL X.K H p xs ∨ SqT X.K H p xs) → Rps X.K m xs ds → (Post X (fun _ _ _ _ => False) m H (.ok (.int ds.length) μ) fun d _ m' H' => ∀ v, Rp X.K m' v d → Q v H') → wpAny (model X.prog X.w) X.A (call (.builtin "len") [v]) (EP X pins σ Q) X.xe s := fun {p xs ds} e h1 h2 post => by
    subst e
    refine call_len_seq pins s σ H _ _ Q I (.cons rx .nil) ⟨p, xs, rfl, h1, ?_⟩
    rw [h2.len]
    exact post.give rel (.int _)
  cases a with
  | str z =>
    cases ra with
    | str _ hz =>
    refine call_len_str pins s σ H _ _ Q I (.cons rx .nil) ⟨cs z, rfl, by rw [cs_len, ← line_eq]; exact hz, ?_⟩
    rw [cs_len]
    exact post.give rel (.int _)
  | tup ds =>
    obtain ⟨p, xs, e, h1, h2⟩ := rel.getT ra
    exact seq e (.inr h1) h2 post
  | lst ds =>
    obtain ⟨p, xs, e, h1, h2⟩ := rel.getL ra rfl
    exact seq e (.inl h1.l) h2 post
  | ref k =>
    cases e : μ[k]? with
    | none => simp only [bLen, e] at post; exact post.elim
    | some c =>
      obtain ⟨p, ep, hk, cc⟩ := rel.at_ ra e
      cases c with
      | lst ds =>
        obtain ⟨xs, h1, _, h3⟩ := cc
        simp only [bLen, e] at post
        exact seq ep (.inl (SqL.of h1)) h3 post
      | fz ds =>
        obtain ⟨xs, h1, h3⟩ := cc
        simp only [bLen, e] at post
        exact seq ep (.inl (SqL.of (rel.fzH _ _ h1))) h3 post
      | dict kvs =>
        obtain ⟨ys, h1, _, h3⟩ := cc
        simp only [bLen, e] at post
        subst ep
        cases rx
        refine d_len I (.inl h1) fun t s' I' => ⟨.int ys.length, H, I', ⟨t, rfl⟩, ?_⟩
        have : ys.length = kvs.length := Paired.length h3
        rw [this]
        exact post.give rel (.int _)
      | obj _ _ => simp only [bLen, e] at post; exact post.elim
  | _ => exact post.elim
theorem c_int : CallR X (.type "int") (rN X (blt .int)) := by
  refine call1 (g := bInt) (fun pins s σ H x v Q I rx ⟨m, μ, a, rel, ra, post⟩ => ?_) fun as μ => by
    cases as with
    | nil => rfl
    | cons a as => cases as <;> rfl
  cases a with
  | int i => cases ra; exact call_int1 pins s σ H _ _ Q I (.cons rx .nil) (.inl ⟨i, rfl, post.give rel (.int _)⟩)
  | bl k => cases ra; exact call_int1 pins s σ H _ _ Q I (.cons rx .nil) (.inr ⟨k, rfl, post.give rel (.int _)⟩)
  | _ => exact post.elim
theorem fits_log {i : Int} (h : fits i = true) : i.natAbs.log2 < 1920 := by
  have h : i.natAbs < 2 ^ 1900 := of_decide_eq_true h
  by_cases h0 : i.natAbs = 0
  · rw [h0]; decide
  · exact Nat.lt_of_lt_of_le ((Nat.log2_lt h0).mpr h) (by decide)
theorem textI_len {i : Int} (h : fits i = true) : (textI i).length ≤ line := by
  have := PySem.int_text_fits (a := i) (fits_log h)
  rw [ofString_cs, cs_len, ← line_eq] at this
  exact this
theorem c_str : CallR X (.type "str") (rN X (blt .str)) := by
  refine call1 (g := bStr) (fun pins s σ H x v Q I rx ⟨m, μ, a, rel, ra, post⟩ => ?_) fun as μ => by
    cases as with
    | nil => rfl
    | cons a as => cases as <;> rfl
  cases a with
  | int i =>
    by_cases h : fits i = true
    · simp only [bStr, if_pos h] at post
      cases ra
      refine call_str_int pins s σ H _ _ Q I (.cons rx .nil) ⟨i, rfl, fits_log h, ?_⟩
      show Q (.str (PySem.Str.ofString (toString i))) H
      rw [ofString_cs]
      exact post.give rel (.str _ (textI_len h))
    · simp only [bStr, if_neg h] at post
      exact post.elim
  | str z =>
    cases ra with
    | str _ hz => exact SkE.call_str_str pins s σ H _ _ Q I (.cons rx .nil) ⟨cs z, rfl, post.give rel (.str _ hz)⟩
  | _ => exact post.elim
theorem c_bool : CallR X (.type "bool") (rN X (blt .bool)) := by
  refine call1 (g := bBool) (fun pins s σ H x v Q I rx ⟨m, μ, a, rel, ra, post⟩ => ?_) fun as μ => by
    cases as with
    | nil => rfl
    | cons a as => cases as <;> rfl
  cases a with
  | int i => cases ra; exact call_bool1 pins s σ H _ _ Q I (.cons rx .nil) (.inl ⟨i, rfl, post.give rel (.bl _)⟩)
  | bl k => cases ra; exact call_bool1 pins s σ H _ _ Q I (.cons rx .nil) (.inr ⟨k, rfl, post.give rel (.bl _)⟩)
  | _ => exact post.elim
theorem c_abs : CallR X (.builtin "abs") (rN X (blt .abs)) := by
  refine call1 (g := bAbs) (fun pins s σ H x v Q I rx ⟨m, μ, a, rel, ra, post⟩ => ?_) fun as μ => by
    cases as with
    | nil => rfl
    | cons a as => cases as <;> rfl
  cases a with
  | int i => cases ra; exact call_abs pins s σ H _ _ Q I (.cons rx .nil) ⟨i, rfl, post.give rel (.int _)⟩
  | _ => exact post.elim
theorem keys_map {K : PySem.W.Frag} : ∀ {ys : List (L2.Key × V)} {kvs : List (Key × D)}, KRp K m ys kvs → Rps K m (ys.map fun kv => kV kv.1) (kvs.map fun p => keyD p.1)
  | _, _, .nil => .nil
  | (a, v) :: ys, (k, d) :: kvs, .cons ⟨r1, r3, r2⟩ t => by
    have r1 : a = kk k := r1
    subst r1
    refine .cons ?_ (keys_map t)
    cases k with
    | inl i => exact .int i
    | inr x => exact .str x r3
theorem keyOf_B {K : PySem.W.Frag} {a : D} {v : V} {k : Key} (r : Rp K m v a) (h : keyOf a = some k) : keyB k := by
  cases a with
  | int i =>
    cases h
    trivial
  | str x =>
    cases r with
    | str _ hx =>
    cases h
    exact hx
  | _ => cases h
theorem c_list (hc : X.calm = true) : CallR X (.type "list") (rN X (blt .list)) := by
  refine call1 (g := bList) (fun pins s σ H x v Q I rx ⟨m, μ, a, rel, ra, post⟩ => ?_) fun as μ => by
    cases as with
    | nil => rfl
    | cons a as => cases as <;> rfl
  cases e : getS μ a with
  | some ds =>
    simp only [bList, e] at post
    obtain ⟨p, xs, ep, h1, h2⟩ := rel.getS ra e
    subst ep
    exact call_list_of pins s σ H _ _ Q I (.cons rx .nil) ⟨p, xs, rfl, h1, post.newL rel h2⟩
  | none =>
    simp only [bList, e] at post
    cases a with
    | ref k =>
      cases e2 : μ[k]? with
      | none => simp only [e2] at post; exact post.elim
      | some c =>
        obtain ⟨p, ep, hk, cc⟩ := rel.at_ ra e2
        cases c with
        | dict kvs =>
          obtain ⟨ys, h1, _, h3⟩ := cc
          simp only [e2] at post
          subst ep
          exact call_listD hc pins s σ H _ _ Q I (.cons rx .nil) ⟨p, ys, rfl, .inl h1, post.newL rel (keys_map h3)⟩
        | _ => simp only [e2] at post; exact post.elim
    | _ => exact post.elim
theorem c_tuple : CallR X (.type "tuple") (rN X (blt .tuple)) := by
  refine call1 (g := bTuple) (fun pins s σ H x v Q I rx ⟨m, μ, a, rel, ra, post⟩ => ?_) fun as μ => by
    cases as with
    | nil => rfl
    | cons a as => cases as <;> rfl
  cases a with
  | tup ds =>
    obtain ⟨p, xs, e, h1, h2⟩ := rel.getT ra
    subst e
    exact call_tuple_of pins s σ H _ _ Q I (.cons rx .nil) ⟨p, xs, rfl, .inr ⟨h1, post.give rel ra⟩⟩
  | lst ds =>
    obtain ⟨p, xs, e, h1, h2⟩ := rel.getL ra rfl
    subst e
    exact call_tuple_of pins s σ H _ _ Q I (.cons rx .nil) ⟨p, xs, rfl, .inl ⟨h1.l, post.newT rel h2⟩⟩
  | ref k =>
    cases e : μ[k]? with
    | none => simp only [bTuple, e] at post; exact post.elim
    | some c =>
      obtain ⟨p, ep, hk, cc⟩ := rel.at_ ra e
      cases c with
      | lst ds =>
        obtain ⟨xs, h1, _, h3⟩ := cc
        simp only [bTuple, e] at post
        subst ep
        exact call_tuple_of pins s σ H _ _ Q I (.cons rx .nil) ⟨p, xs, rfl, .inl ⟨SqL.of h1, post.newT rel h3⟩⟩
      | fz ds =>
        obtain ⟨xs, h1, h3⟩ := cc
        simp only [bTuple, e] at post
        subst ep
        exact call_tuple_of pins s σ H _ _ Q I (.cons rx .nil) ⟨p, xs, rfl, .inl ⟨SqL.of (rel.fzH _ _ h1), post.newT rel h3⟩⟩
      | dict _ => simp only [bTuple, e] at post; exact post.elim
      | obj _ _ => simp only [bTuple, e] at post; exact post.elim
  | _ => exact post.elim
/-- a new dict -/
theorem PostG.newD {m : Mp} {H : Hp} {μ : Mem} {kvs : List (Key × D)} {ys : List (L2.Key × V)} {Q : VK} {Xc : String → Mem → Mp → Hp → Prop} (rel : RelM X m H μ) (h : Post X Xc m H (.ok (.ref μ.length) (μ ++ [.dict kvs])) fun d _ m' H' => ∀ v, Rp X.K m' v d → Q v H') (r : KRp X.K m ys kvs) :
    ∀ p, H p = none → Q (.ref p) (upd H p (.dK ys)) := fun p hp => by
  have hf : m.fz p = none := by
    cases e : m.fz p with
    | none => rfl
    | some q => rw [rel.fzH _ _ e] at hp; cases hp
  have l : Le m (m.add μ.length p) := ⟨fun k b h => by
    have := rel.top k b h
    show (if k = μ.length then some p else m.al k) = some b
    rw [if_neg (by omega)]
    exact h, fun _ _ h => h⟩
  obtain ⟨q1, q2⟩ := rel.new (c := .dict kvs) hp ⟨ys, upd_same, hf, Paired.imp r fun _ _ q => ⟨q.1, q.2.1, q.2.2.mono l⟩⟩
  exact h _ _ q2 q1 _ (.ref (if_pos rfl))
theorem c_dict : CallR X (.type "dict") (rN X (blt .dict)) := by
  refine call1 (g := bDict) (fun pins s σ H x v Q I rx ⟨m, μ, a, rel, ra, post⟩ => ?_) fun as μ => by
    cases as with
    | nil => rfl
    | cons a as => cases as <;> rfl
  cases a with
  | ref k =>
    cases e : μ[k]? with
    | none => simp only [bDict, e] at post; exact post.elim
    | some c =>
      obtain ⟨p, ep, hk, cc⟩ := rel.at_ ra e
      cases c with
      | dict kvs =>
        obtain ⟨ys, h1, _, h3⟩ := cc
        simp only [bDict, e] at post
        subst ep
        exact call_dictD pins s σ H _ _ Q I (.cons rx .nil) ⟨p, ys, rfl, .inl h1, post.newD rel h3⟩
      | _ => simp only [bDict, e] at post; exact post.elim
  | _ => exact post.elim
/-- of a list of ints -/
theorem ints_of {f : Value} {h : List Int → Option Int} {Q : VK} {a : D} {x : V} (rel : RelM X m H μ) (ra : Rp X.K m x a) (post : Post X (fun _ _ _ _ => False) m H (bInts h a μ) fun d _ m' H' => ∀ v, Rp X.K m' v d → Q v H') :
    ∃ p ns n, x = .ref p ∧ SqL X.K H p (ns.map V.int) ∧ h ns = some n ∧ Q (.int n) H := by
  cases e : getL μ a with
  | none => simp only [bInts, e] at post; exact post.elim
  | some ds =>
    cases e2 : intsOf ds with
    | none => simp only [bInts, e, e2] at post; exact post.elim
    | some ns =>
      cases e3 : h ns with
      | none => simp only [bInts, e, e2, e3] at post; exact post.elim
      | some n =>
        simp only [bInts, e, e2, e3] at post
        obtain ⟨p, xs, ep, h1, h2⟩ := rel.getL ra e
        obtain ⟨q1, _⟩ := h2.ints e2
        exact ⟨p, ns, n, ep, by rw [← q1]; exact h1.l, e3, post.give rel (.int _)⟩
theorem c_sum (hc : X.calm = true) : CallR X (.builtin "sum") (rN X (blt .sum)) := by
  refine call1 (g := bInts fun ns => some ns.sum) (fun pins s σ H x v Q I rx ⟨m, μ, a, rel, ra, post⟩ => ?_) fun as μ => by
    cases as with
    | nil => rfl
    | cons a as => cases as <;> rfl
  obtain ⟨p, ns, n, rfl, h1, h2, q⟩ := ints_of (f := v) rel ra post
  refine cr_sum hc pins s σ H _ _ Q I (.cons rx .nil) ⟨p, ns, rfl, h1, ?_⟩
  rw [Option.some.inj h2]
  exact q
theorem maxI_of {ns : List Int} {n : Int} (h : maxI ns = some n) : 0 < ns.length ∧ ∀ k, k ∈ ns → (∀ y ∈ ns, y ≤ k) → k = n := by
  cases ns with
  | nil => cases h
  | cons a r =>
    have e : r.foldl max a = n := Option.some.inj h
    refine ⟨Nat.succ_pos _, fun k hk hm => ?_⟩
    have up : ∀ (r : List Int) (a : Int), a ≤ r.foldl max a ∧ (∀ y ∈ r, y ≤ r.foldl max a) ∧ (r.foldl max a = a ∨ r.foldl max a ∈ r) := fun r => by
      induction r with
      | nil => exact fun a => ⟨Int.le_refl _, (fun _ h => nomatch h), .inl rfl⟩
      | cons b r ih =>
        intro a
        obtain ⟨i1, i2, i3⟩ := ih (max a b)
        rw [List.foldl_cons]
        refine ⟨by omega, fun y hy => ?_, ?_⟩
        · rcases List.mem_cons.mp hy with rfl | hy
          · omega
          · exact i2 y hy
        · rcases i3 with i3 | i3
          · rw [i3]
            by_cases c : a ≤ b
            · right
              rw [Int.max_eq_right c]
              exact List.mem_cons_self
            · left
              rw [Int.max_eq_left (by omega)]
          · exact .inr (List.mem_cons_of_mem _ i3)
    obtain ⟨u1, u2, u3⟩ := up r a
    rw [e] at u1 u2 u3
    have h1 : k ≤ n := by
      rcases List.mem_cons.mp hk with rfl | hk
      · exact u1
      · exact u2 k hk
    have h2 : n ≤ k := by
      rcases u3 with u3 | u3
      · rw [u3]; exact hm a List.mem_cons_self
      · exact hm n (List.mem_cons_of_mem _ u3)
    omega
theorem minI_of {ns : List Int} {n : Int} (h : minI ns = some n) : 0 < ns.length ∧ ∀ k, k ∈ ns → (∀ y ∈ ns, k ≤ y) → k = n := by
  cases ns with
  | nil => cases h
  | cons a r =>
    have e : r.foldl min a = n := Option.some.inj h
    refine ⟨Nat.succ_pos _, fun k hk hm => ?_⟩
    have up : ∀ (r : List Int) (a : Int), r.foldl min a ≤ a ∧ (∀ y ∈ r, r.foldl min a ≤ y) ∧ (r.foldl min a = a ∨ r.foldl min a ∈ r) := fun r => by
      induction r with
      | nil => exact fun a => ⟨Int.le_refl _, (fun _ h => nomatch h), .inl rfl⟩
      | cons b r ih =>
        intro a
        obtain ⟨i1, i2, i3⟩ := ih (min a b)
        rw [List.foldl_cons]
        refine ⟨by omega, fun y hy => ?_, ?_⟩
        · rcases List.mem_cons.mp hy with rfl | hy
          · omega
          · exact i2 y hy
        · rcases i3 with i3 | i3
          · rw [i3]
            by_cases c : a ≤ b
            · left
              rw [Int.min_eq_left c]
            · right
              rw [Int.min_eq_right (by omega)]
              exact List.mem_cons_self
          · exact .inr (List.mem_cons_of_mem _ i3)
    obtain ⟨u1, u2, u3⟩ := up r a
    rw [e] at u1 u2 u3
    have h1 : n ≤ k := by
      rcases List.mem_cons.mp hk with rfl | hk
      · exact u1
      · exact u2 k hk
    have h2 : k ≤ n := by
      rcases u3 with u3 | u3
      · rw [u3]; exact hm a List.mem_cons_self
      · exact hm n (List.mem_cons_of_mem _ u3)
    omega
theorem c_max (hc : X.calm = true) : CallR X (.builtin "max") (rN X (blt .max)) := by
  intro pins s σ H xs us Q I rs ⟨m, μ, as, rel, ra, post⟩
  cases ra with
  | nil => exact post.elim
  | cons r1 r2 => cases r2 with
    | nil =>
      obtain ⟨p, ns, n, rfl, h1, h2, q⟩ := ints_of (f := .none) rel r1 post
      obtain ⟨g1, g2⟩ := maxI_of h2
      refine cr_max hc pins s σ H _ us Q I rs ⟨p, ns, rfl, h1, g1, fun k h3 h4 => ?_⟩
      rw [g2 k h3 h4]
      exact q
    | cons r3 r4 => cases r4 with
      | nil =>
        rename_i x d x2 d2
        cases d with
        | int i => cases d2 with
          | int j =>
            cases r1; cases r3
            exact call_max2 hc pins s σ H _ us Q I rs ⟨i, j, rfl, post.give rel (.int _)⟩
          | _ => exact post.elim
        | _ => exact post.elim
      | cons _ _ => exact post.elim
theorem c_min (hc : X.calm = true) : CallR X (.builtin "min") (rN X (blt .min)) := by
  intro pins s σ H xs us Q I rs ⟨m, μ, as, rel, ra, post⟩
  cases ra with
  | nil => exact post.elim
  | cons r1 r2 => cases r2 with
    | nil =>
      obtain ⟨p, ns, n, rfl, h1, h2, q⟩ := ints_of (f := .none) rel r1 post
      obtain ⟨g1, g2⟩ := minI_of h2
      refine cr_min hc pins s σ H _ us Q I rs ⟨p, ns, rfl, h1, g1, fun k h3 h4 => ?_⟩
      rw [g2 k h3 h4]
      exact q
    | cons r3 r4 => cases r4 with
      | nil =>
        rename_i x d x2 d2
        cases d with
        | int i => cases d2 with
          | int j =>
            cases r1; cases r3
            exact call_min2 hc pins s σ H _ us Q I rs ⟨i, j, rfl, post.give rel (.int _)⟩
          | _ => exact post.elim
        | _ => exact post.elim
      | cons _ _ => exact post.elim
theorem c_anyall {f : Value} {fn : B} {g : List Bool → Bool} (h : CallR X f fun vs H Q => ∃ (a : Addr) (bs : List Bool), vs = [V.ref a] ∧ SqL X.K H a (bs.map V.bl) ∧ Q (.bl (g bs)) H) (e : ∀ as μ, blt fn as μ = match as with
      | [a] => bBools g a μ
      | _ => .bad) : CallR X f (rN X (blt fn)) := by
  refine call1 (g := bBools g) (fun pins s σ H x v Q I rx ⟨m, μ, a, rel, ra, post⟩ => ?_) e
  cases e : getL μ a with
  | none => simp only [bBools, e] at post; exact post.elim
  | some ds =>
    cases e2 : boolsOf ds with
    | none => simp only [bBools, e, e2] at post; exact post.elim
    | some ns =>
      simp only [bBools, e, e2] at post
      obtain ⟨p, xs, ep, h1, h2⟩ := rel.getL ra e
      subst ep
      exact h pins s σ H _ _ Q I (.cons rx .nil) ⟨p, ns, rfl, by rw [← h2.bools e2]; exact h1.l, post.give rel (.bl _)⟩
theorem c_any (hc : X.calm = true) : CallR X (.builtin "any") (rN X (blt .any)) := c_anyall (g := fun bs => bs.any id) (cr_any hc) fun as μ => by
  cases as with
  | nil => rfl
  | cons a as => cases as <;> rfl
theorem c_all (hc : X.calm = true) : CallR X (.builtin "all") (rN X (blt .all)) := c_anyall (g := fun bs => bs.all id) (cr_all hc) fun as μ => by
  cases as with
  | nil => rfl
  | cons a as => cases as <;> rfl
end
end G
/-! The G machine over the hand layer: the written form, sorted. -/
set_option Elab.async false
set_option linter.all false
set_option maxRecDepth 100000
namespace G
open PySem PySem.Spec L2
/-! ### the written form -/
theorem joinStr_cons (sep x y : PySem.Str) (r : List PySem.Str) : PySem.Str.join sep (x :: y :: r) = x ++ sep ++ PySem.Str.join sep (y :: r) := rfl
theorem joinStr_cs (a : Tx) : ∀ ts : List Tx, PySem.Str.join (cs a) (ts.map cs) = cs (joinT a ts)
  | [] => rfl
  | [x] => rfl
  | x :: y :: r => by
    have h := joinStr_cs a (y :: r)
    rw [List.map_cons, List.map_cons, joinStr_cons, ← List.map_cons, h]
    simp only [joinT, cs_append]
theorem print_ok : ∀ c : Nat, c < 127 → 32 ≤ c → Unicode.isPrintable c = true := by decide +kernel
theorem reprChar_plain {c : Char} (h : plainC c = true) : Builtin.Str.reprChar 39 c.toNat = [c.toNat] := by
  unfold plainC at h
  simp only [Bool.and_eq_true, decide_eq_true_eq] at h
  obtain ⟨⟨⟨h1, h2⟩, h3⟩, h4⟩ := h
  have hp := print_ok c.toNat h2 h1
  unfold Builtin.Str.reprChar
  have e1 : (c.toNat == 39) = false := by simpa using h3
  have e2 : (c.toNat == 92) = false := by simpa using h4
  have e3 : (c.toNat == 10) = false := by simp; omega
  have e4 : (c.toNat == 13) = false := by simp; omega
  have e5 : (c.toNat == 9) = false := by simp; omega
  simp only [e1, e2, e3, e4, e5, hp, Bool.or_self, Bool.false_eq_true, if_false, if_true]
theorem reprQuote_plain {x : Tx} (h : x.all plainC = true) : reprQuote (cs x) = 39 := by
  unfold reprQuote
  have e : (cs x).cps.contains 39 = false := by
    rw [← Bool.not_eq_true, Array.contains_iff_mem, ← Array.mem_toList_iff, cs_cps]
    intro hm
    obtain ⟨c, hc, e⟩ := List.mem_map.mp hm
    have := List.all_eq_true.mp h c hc
    unfold plainC at this
    simp only [Bool.and_eq_true, decide_eq_true_eq] at this
    omega
  rw [e]
  rfl
theorem repr_foldl : ∀ (x : Tx) (acc : Array Nat), x.all plainC = true → (x.map Char.toNat).foldl (fun out c => out ++ (Builtin.Str.reprChar 39 c).toArray) acc = acc ++ (x.map Char.toNat).toArray
  | [], acc, _ => by simp
  | c :: x, acc, h => by
    simp only [List.all_cons, Bool.and_eq_true] at h
    rw [List.map_cons, List.foldl_cons, reprChar_plain h.1, repr_foldl x _ h.2]
    apply Array.toList_inj.mp
    simp
theorem reprText_plain {x : Tx} (h : x.all plainC = true) : reprText (cs x) = cs ('\'' :: (x ++ ['\''])) := by
  unfold reprText
  rw [reprQuote_plain h, ← Array.foldl_toList, cs_cps, repr_foldl x _ h]
  apply Str.ext'
  apply Array.toList_inj.mp
  simp [cs]
theorem textI_cs (i : Int) : ((toString i : String) : PySem.Str) = cs (textI i) := ofString_cs _
mutual
theorem reprT_ok : ∀ (d : D) (t : Tx), reprT d = some t → (toPy d).shown = cs t ∧ (toPy d).showable = true ∧ d.noref = true
  | .non, t, h => by
    simp only [reprT, Option.some.injEq] at h
    subst h
    exact ⟨by simp only [toPy, PyData.shown]; exact ofString_cs _, by simp [toPy, PyData.showable], by simp [D.noref]⟩
  | .bl b, t, h => by
    simp only [reprT, Option.some.injEq] at h
    subst h
    refine ⟨?_, by simp [toPy, PyData.showable], by simp [D.noref]⟩
    simp only [toPy, PyData.shown]
    cases b <;> exact ofString_cs _
  | .int i, t, h => by
    simp only [reprT] at h
    split at h
    · next hf =>
      cases h
      exact ⟨by simp only [toPy, PyData.shown]; exact textI_cs i, by simp only [toPy, PyData.showable, fits_log hf, decide_true], by simp [D.noref]⟩
    · cases h
  | .str x, t, h => by
    simp only [reprT] at h
    split at h
    · next hf =>
      cases h
      exact ⟨by simp only [toPy, PyData.shown]; exact reprText_plain hf, by simp [toPy, PyData.showable], by simp [D.noref]⟩
    · cases h
  | .tup ds, t, h => by
    simp only [reprT, Option.map_eq_some_iff] at h
    obtain ⟨ts, h1, rfl⟩ := h
    obtain ⟨e1, e2, e3, e4⟩ := reprTs_ok ds ts h1
    refine ⟨?_, by simpa only [toPy, PyData.showable] using e2, by simpa only [D.noref] using e3⟩
    simp only [toPy]
    rw [PyData.shown_tuple, e1]
    have hs : ((", " : String) : PySem.Str) = cs [',', ' '] := ofString_cs _
    have hl : ((toPys ds).length == 1) = decide (ts.length = 1) := by rw [e4]; rfl
    have hc : ∀ b : Bool, ((if b = true then ",)" else ")" : String) : PySem.Str) = cs (if b = true then [',', ')'] else [')']) := fun b => by cases b <;> exact ofString_cs _
    show PySem.Str.ofString "(" ++ PySem.Str.join (PySem.Str.ofString ", ") (ts.map cs) ++ _ = _
    rw [hl, hc, hs, joinStr_cs, ofString_cs "("]
    rw [← cs_append, ← cs_append]
    congr 1
    show '(' :: (joinT [',', ' '] ts ++ _) = _
    congr 2
    by_cases h1 : ts.length = 1 <;> simp [h1]
  | .lst ds, t, h => by
    simp only [reprT, Option.map_eq_some_iff] at h
    obtain ⟨ts, h1, rfl⟩ := h
    obtain ⟨e1, e2, e3, e4⟩ := reprTs_ok ds ts h1
    refine ⟨?_, by simpa only [toPy, PyData.showable] using e2, by simpa only [D.noref] using e3⟩
    simp only [toPy]
    rw [PyData.shown_list, e1]
    have hs : ((", " : String) : PySem.Str) = cs [',', ' '] := ofString_cs _
    show PySem.Str.ofString "[" ++ PySem.Str.join (PySem.Str.ofString ", ") (ts.map cs) ++ PySem.Str.ofString "]" = _
    rw [hs, joinStr_cs, ofString_cs "[", ofString_cs "]", ← cs_append, ← cs_append]
    rfl
  | .ref _, t, h => by simp [reprT] at h
theorem reprTs_ok : ∀ (ds : List D) (ts : List Tx), reprTs ds = some ts → PyData.shownAll (toPys ds) = ts.map cs ∧ PyData.showableAll (toPys ds) = true ∧ D.norefs ds = true ∧ (toPys ds).length = ts.length
  | [], ts, h => by
    simp only [reprTs, Option.some.injEq] at h
    subst h
    simp [toPys, PyData.shownAll, PyData.showableAll, D.norefs]
  | d :: ds, ts, h => by
    simp only [reprTs] at h
    split at h
    · next t r h1 h2 =>
      cases h
      obtain ⟨a1, a2, a3⟩ := reprT_ok d t h1
      obtain ⟨b1, b2, b3, b4⟩ := reprTs_ok ds r h2
      simp only [toPys, PyData.shownAll, PyData.showableAll, D.norefs, a1, a2, a3, b1, b2, b3, List.map_cons, Bool.and_self, List.length_cons, b4, and_self]
    · cases h
end
section
variable {X : Cx}
theorem c_repr (gd : X.A.guards = some []) (hu : X.A.units + 200 < cLine) : CallR X (.builtin "repr") (rN X (blt .repr)) := by
  intro pins s σ H xs us Q I rx h
  obtain ⟨m, μ, as, rel, ra, post⟩ := h
  cases ra with
  | nil => exact post.elim
  | cons r1 r2 =>
    cases r2 with
    | cons _ _ => exact post.elim
    | nil =>
      rename_i x a
      have post : Post X (fun _ _ _ _ => False) m H (bRepr a μ) fun d _ m' H' => ∀ v, Rp X.K m' v d → Q v H' := post
      unfold bRepr at post
      split at post
      · next t e =>
        split at post
        · next hl =>
          obtain ⟨h1, h2, h3⟩ := reprT_ok _ _ e
          obtain ⟨u, rfl, ru⟩ := vals1 rx
          have dp := rel.dpLook r1 h3
          obtain ⟨ad, rd⟩ := Dp.reads I _ x u dp ru
          have fin : ∀ {s' : Shared} {tk : Tok}, L2.Inv X pins σ H s' → EP X pins σ Q (.str (cs t) tk) s' := fun {s' tk} I' => ⟨.str (cs t), H, I', ⟨tk, rfl⟩, PostG.give rel post (.str t hl.1)⟩
          have hz : (toPy (look μ a)).shown.length ≤ sizeLine := by rw [h1, cs_len, ← line_eq]; exact hl.1
          have hd : (toPy (look μ a)).depth ≤ 60 := by rw [toPy_depth]; exact hl.2
          generalize hp : toPy (look μ a) = p at rd h1 h2 hz hd
          have nd : p.hasDict = false := by rw [← hp]; exact PyData.hasDict_of_canLay _ (toPy_lay _)
          cases rd with
          | none =>
            refine P.repr_of_none ?_
            have e : ("None" : PySem.Str) = cs t := by rw [← h1]; simp only [PyData.shown]
            rw [e]
            exact fin (I.tok _)
          | bool b =>
            refine P.repr_of_bool ?_
            have e : (if b then "True" else "False" : PySem.Str) = cs t := by rw [← h1]; simp only [PyData.shown]
            rw [e]
            exact fin (I.tok _)
          | int i tk =>
            have hi : i.natAbs.log2 < 1920 := by simpa [PyData.showable] using h2
            refine P.repr_of_int hi ?_
            have e : ((toString i : String) : PySem.Str) = cs t := by rw [← h1]; simp only [PyData.shown]
            rw [e]
            exact fin (I.tok _)
          | str z tk =>
            have e : reprText z = cs t := by rw [← h1]; simp only [PyData.shown]
            have hz : (reprText z).length ≤ sizeLine := by simpa only [PyData.shown] using hz
            refine P.repr_of_str ?_ hz
            rw [e]
            exact fin (I.tok _)
          | list q1 q2 q3 q4 =>
            refine repr_of_reads' (.list q1 q2 q3 q4) h2 (PyData.noDict_hsm nd) gd (by omega) (fun _ _ e => e) (fun h' tk tks hk => ?_) hz
            rw [h1]
            exact fin (I.kept hk)
          | tuple q1 q2 q3 q4 =>
            refine repr_of_reads' (.tuple q1 q2 q3 q4) h2 (PyData.noDict_hsm nd) gd (by omega) (fun _ _ e => e) (fun h' tk tks hk => ?_) hz
            rw [h1]
            exact fin (I.kept hk)
          | dict _ _ _ _ _ => simp [PyData.hasDict] at nd
        · exact post.elim
      · exact post.elim
end
/-! ### sorted -/
open PySem.W in
mutual
theorem alike_py : ∀ a b : D, a.noref = true → b.noref = true → PySem.W.alike (toPy a) (toPy b) = a.alike b
  | .non, b, _, h => by cases b <;> first | (simp [D.noref] at h; done) | simp [toPy, PySem.W.alike, D.alike]
  | .bl _, b, _, h => by cases b <;> first | (simp [D.noref] at h; done) | simp [toPy, PySem.W.alike, D.alike]
  | .int _, b, _, h => by cases b <;> first | (simp [D.noref] at h; done) | simp [toPy, PySem.W.alike, D.alike]
  | .str _, b, _, h => by cases b <;> first | (simp [D.noref] at h; done) | simp [toPy, PySem.W.alike, D.alike]
  | .tup x, b, ha, h => by
    cases b with
    | tup y => simp only [toPy, PySem.W.alike, D.alike]; exact alikes_py x y (by simpa [D.noref] using ha) (by simpa [D.noref] using h)
    | ref _ => simp [D.noref] at h
    | _ => simp [toPy, PySem.W.alike, D.alike]
  | .lst x, b, ha, h => by
    cases b with
    | lst y => simp only [toPy, PySem.W.alike, D.alike]; exact alikes_py x y (by simpa [D.noref] using ha) (by simpa [D.noref] using h)
    | ref _ => simp [D.noref] at h
    | _ => simp [toPy, PySem.W.alike, D.alike]
  | .ref _, _, h, _ => by simp [D.noref] at h
theorem alikes_py : ∀ a b : List D, D.norefs a = true → D.norefs b = true → PySem.W.alikeAll (toPys a) (toPys b) = D.alikes a b
  | [], b, _, _ => by simp [toPys, PySem.W.alikeAll, D.alikes]
  | _ :: _, [], _, _ => by simp [toPys, PySem.W.alikeAll, D.alikes]
  | a :: as, b :: bs, ha, hb => by
    simp only [D.norefs, Bool.and_eq_true] at ha hb
    simp only [toPys, PySem.W.alikeAll, D.alikes, alike_py a b ha.1 hb.1, alikes_py as bs ha.2 hb.2]
end
mutual
theorem lt_py : ∀ a b : D, a.noref = true → b.noref = true → a.alike b = true → PySem.W.dataLt (toPy a) (toPy b) = a.lt b
  | .non, b, _, _, h => by
    cases b with
    | non => simp only [toPy, D.lt]; decide +kernel
    | _ => simp [D.alike] at h
  | .bl x, b, _, _, h => by
    cases b with
    | bl y => simp only [toPy, D.lt, PySem.W.dataLt_bool]; rfl
    | _ => simp [D.alike] at h
  | .int x, b, _, _, h => by
    cases b with
    | int y => simp only [toPy, D.lt, PySem.W.dataLt_int]
    | _ => simp [D.alike] at h
  | .str x, b, _, _, h => by
    cases b with
    | str y => simp only [toPy, D.lt, PySem.W.dataLt_str, txLt_dec]
    | _ => simp [D.alike] at h
  | .tup x, b, ha, hb, h => by
    cases b with
    | tup y => simp only [toPy, D.lt, PySem.W.dataLt_tuple]; exact lts_py x y (by simpa [D.noref] using ha) (by simpa [D.noref] using hb) (by simpa [D.alike] using h)
    | _ => simp [D.alike] at h
  | .lst x, b, ha, hb, h => by
    cases b with
    | lst y => simp only [toPy, D.lt, PySem.W.dataLt_list]; exact lts_py x y (by simpa [D.noref] using ha) (by simpa [D.noref] using hb) (by simpa [D.alike] using h)
    | _ => simp [D.alike] at h
  | .ref _, _, h, _, _ => by simp [D.noref] at h
theorem lts_py : ∀ a b : List D, D.norefs a = true → D.norefs b = true → D.alikes a b = true → PyProof.Rows.lexLt PyProof.Rows.itemOrd (PySem.W.keyToksAll (toPys a)) (PySem.W.keyToksAll (toPys b)) = D.lts a b
  | [], [], _, _, _ => by simp only [toPys, D.lts]; decide +kernel
  | [], _ :: _, _, _, _ => by simp only [toPys, D.lts, PySem.W.keyToksAll]; rfl
  | _ :: _, [], _, _, _ => by simp only [toPys, D.lts, PySem.W.keyToksAll]; rfl
  | a :: as, b :: bs, ha, hb, h => by
    simp only [D.norefs, Bool.and_eq_true] at ha hb
    simp only [D.alikes, Bool.and_eq_true] at h
    simp only [toPys, D.lts]
    rw [PySem.W.dataLt_cons (by rw [alike_py _ _ ha.1 hb.1]; exact h.1), eqv_py _ _ ha.1 hb.1, lts_py as bs ha.2 hb.2 h.2, lt_py a b ha.1 hb.1 h.1]
end
section
variable {X : Cx}
theorem each_rel {K : PySem.W.Frag} {m : Mp} : ∀ {ys : List V} {its : List Value} {ds : List D}, Vals ys its → Rps K m ys ds → PySem.W.EachIs (fun (u : Value) (p : V × D) => RelV p.1 u ∧ Rp K m p.1 p.2) its (ys.zip ds)
  | _, _, _, .nil, .nil => .nil
  | _, _, _, .cons r t, .cons q h => .cons ⟨r, q⟩ (each_rel t h)
theorem each_back {K : PySem.W.Frag} {m : Mp} : ∀ {its : List Value} {ps : List (V × D)}, PySem.W.EachIs (fun (u : Value) (p : V × D) => RelV p.1 u ∧ Rp K m p.1 p.2) its ps → Vals (ps.map (·.1)) its ∧ Rps K m (ps.map (·.1)) (ps.map (·.2))
  | _, _, .nil => ⟨.nil, .nil⟩
  | _, _, .cons h t => ⟨.cons h.1 (each_back t).1, .cons h.2 (each_back t).2⟩
theorem c_sorted (hu : X.A.units + 200 < cLine) : CallR X (.builtin "sorted") (rN X (blt .sorted)) := by
  intro pins s σ H xs us Q I rx h
  obtain ⟨m, μ, as, rel, ra, post⟩ := h
  cases ra with
  | nil => exact post.elim
  | cons r1 r2 =>
    cases r2 with
    | cons _ _ => exact post.elim
    | nil =>
      rename_i x a
      have post : Post X (fun _ _ _ _ => False) m H (bSorted a μ) fun d _ m' H' => ∀ v, Rp X.K m' v d → Q v H' := post
      unfold bSorted at post
      cases e : getL μ a with
      | none => rw [e] at post; exact post.elim
      | some ds =>
        simp only [e] at post
        obtain ⟨p, ys, rfl, h1, h3⟩ := rel.getL r1 e
        unfold sortD at post
        split at post
        · next es hes =>
          split at hes
          · next hc =>
            cases hes
            simp only [Bool.and_eq_true, List.all_eq_true, decide_eq_true_eq] at hc
            obtain ⟨⟨hal, hso⟩, hno⟩ := hc
            obtain ⟨its, rv, hl, hz⟩ := I.list h1.l
            rw [Vals.ref1 rx]
            have hmem : ∀ q ∈ ys.zip ds, q.2 ∈ ds := fun q hq => (List.of_mem_zip (a := q.1) (b := q.2) hq).2
            have hlen := h3.len
            have er := each_rel rv h3
            have hnr : ∀ d ∈ ds, d.noref = true := fun d hd => (hno d hd).1
            have ez : (ys.zip ds).map (·.2) = ds := List.map_snd_zip (by omega)
            refine PySem.W.sorted_data (enc := fun q : V × D => toPy q.2) (bs := ys.zip ds) hl.isList er ?_ ?_ ?_ (by rw [List.length_zip, hlen, Nat.min_self, ← hlen]; exact hz) (fun b hb => ?_) fun out ho eo => ?_
            · have go : ∀ {its : List Value} {ps : List (V × D)}, PySem.W.EachIs (fun (u : Value) (p : V × D) => RelV p.1 u ∧ Rp X.K m p.1 p.2) its ps → (∀ q ∈ ps, q.2 ∈ ds) → PySem.W.EachIs (fun v (b : V × D) => ∃ as, Reads s.heap v (toPy b.2) as) its ps := fun {its ps} h => by
                induction h with
                | nil => exact fun _ => .nil
                | cons h t ih => exact fun hm => .cons (Dp.reads I _ _ _ (Rp.dp rel _ _ h.2 (hnr _ (hm _ List.mem_cons_self))) h.1) (ih fun q hq => hm q (List.mem_cons_of_mem _ hq))
              exact go er hmem
            · intro d hd d' hd'
              obtain ⟨q, hq, rfl⟩ := List.mem_map.mp hd
              obtain ⟨q', hq', rfl⟩ := List.mem_map.mp hd'
              rw [alike_py _ _ (hnr _ (hmem _ hq)) (hnr _ (hmem _ hq'))]
              exact hal _ (hmem _ hq) _ (hmem _ hq')
            · unfold sortable at hso
              rw [Bool.or_eq_true] at hso
              rcases hso with hso | hso
              · refine .inl fun d hd => ?_
                obtain ⟨q, hq, rfl⟩ := List.mem_map.mp hd
                have := List.all_eq_true.mp hso _ (hmem _ hq)
                obtain ⟨q1, q2⟩ := q
                cases q2 with
                | tup l => cases l with
                  | nil => cases this
                  | cons y r => exact ⟨toPy y, toPys r, by simp only [toPy, toPys]⟩
                | _ => cases this
              · refine .inr fun d hd => ?_
                obtain ⟨q, hq, rfl⟩ := List.mem_map.mp hd
                have := List.all_eq_true.mp hso _ (hmem _ hq)
                have hr := hnr _ (hmem _ hq)
                obtain ⟨q1, q2⟩ := q
                cases q2 with
                | non => cases this
                | tup l => cases this
                | ref _ => simp [D.noref] at hr
                | _ => simp [toPy]
            · have h1 := (hno _ (hmem _ hb)).2
              show X.A.units + 2 + (toPy b.2).depth < cLine
              rw [toPy_depth]
              omega
            · obtain ⟨ep, he'⟩ := PyProof.Rows.sortedAll_at s.heap its (List.toArray out)
              obtain ⟨hv, hr⟩ := each_back eo
              have es2 : ((ys.zip ds).mergeSort (PySem.W.dataLe false fun q : V × D => toPy q.2)).map (·.2) = ds.mergeSort leD := by
                rw [List.map_mergeSort (s := leD), ez]
                intro q hq q' hq'
                rw [PySem.W.dataLe_eq]
                show (!PySem.W.dataLt (toPy q'.2) (toPy q.2)) = _
                rw [lt_py _ _ (hnr _ (hmem _ hq')) (hnr _ (hmem _ hq)) (hal _ (hmem _ hq') _ (hmem _ hq))]
                rfl
              rw [es2] at hr
              have hl2 : (((ys.zip ds).mergeSort (PySem.W.dataLe false fun q : V × D => toPy q.2)).map (·.1)).length ≤ sizeLine := by
                rw [List.length_map, List.length_mergeSort, List.length_zip, hlen, Nat.min_self, ← hlen]
                exact hz
              refine ⟨.ref _, upd H (s.heap.objs.size + 1) (.lst (((ys.zip ds).mergeSort (PySem.W.dataLe false fun q : V × D => toPy q.2)).map (·.1))), I.laid (t' := s.toks) (fun _ _ => PyProof.Rows.sortedAll_old) (Nat.le_succ _) ⟨hl2, out, ep, hv, he'⟩, rfl, ?_⟩
              exact PostG.newL rel post hr _ (I.hok.fresh (Nat.le_succ _))
          · cases hes
        · exact post.elim
end
end G
/-! The G machine: a def's text to the machine's program. -/
set_option Elab.async false
set_option linter.all false
set_option maxRecDepth 100000
namespace G
open PySem PySem.Spec L2
/-- what the global names stand for -/
structure Tab where
  fns : List (PySem.Str × String)
  cls : List (PySem.Str × String)
  con : List (PySem.Str × D)
  mth : List PySem.Str
def txOf (x : PySem.Str) : Option Tx := if x.cps.toList.all (fun n => decide (n.isValidChar)) && decide (x.cps.toList.length ≤ line) then some (x.cps.toList.map Char.ofNat) else none
def isVis (sc : Scope) (x : PySem.Str) : Bool := match sc.names.lookup x with
  | some .local => true
  | some .cell => true
  | some .free => true
  | _ => false
def isLoc (sc : Scope) (x : PySem.Str) : Bool := match sc.names.lookup x with
  | some .local => true
  | some .cell => true
  | _ => false
def isGl (sc : Scope) (x : PySem.Str) : Bool := match sc.names.lookup x with
  | some .globalImplicit => true
  | _ => false
def odd (x : PySem.Str) : Bool := x == ("__debug__" : PySem.Str) || x == ("__classdict__" : PySem.Str) || x == ("__name__" : PySem.Str)
/-- a name's slot -/
def slotAt (x : PySem.Str) : List PySem.Str → Nat → Option Nat
  | [], _ => none
  | y :: ys, n => if y = x then some n else slotAt x ys (n + 1)
def cConst : Const → Option E
  | .none => some (.lit .non)
  | .bool b => some (.lit (.bl b))
  | .int i => some (.lit (.int i))
  | .str x => (txOf x).map fun t => .lit (.str t)
  | _ => none
def cName (T : Tab) (N : List PySem.Str) (sc : Scope) (x : PySem.Str) : Option E :=
  if odd x then none else if isVis sc x then (slotAt x N 0).map .var else if isGl sc x then (T.con.lookup x).map .lit else none
def cOp : Operator → Option Op
  | .Add => some .add
  | .Sub => some .sub
  | .Mult => some .mul
  | .FloorDiv => some .fdiv
  | .Mod => some .mod
  | .Pow => some .pow
  | .BitAnd => some .band
  | _ => none
def cAug : Operator → Option Op
  | .Add => some .add
  | .Sub => some .sub
  | _ => none
def cCop : CmpOp → Option Cmp
  | .Eq => some .eq
  | .NotEq => some .ne
  | .Lt => some .lt
  | .LtE => some .le
  | .Gt => some .gt
  | .GtE => some .ge
  | .In => some .isin
  | .NotIn => some .notin
  | .Is => some .isnone
  | .IsNot => some .notnone
/-- an expression that is no star, no display of a set, no slice -/
def plainE : Expr → Bool
  | .Starred _ _ => false
  | .Set _ _ _ => false
  | .Slice _ _ _ _ => false
  | _ => true
section
variable (r : Expr → Option E)
def cEs : List Expr → Option Es
  | [] => some .nil
  | e :: es => if plainE e then (match r e with
    | some i => (cEs es).map (.cons i)
    | none => none) else none
def cPs : List (Option Expr) → List Expr → Option Ps
  | [], [] => some .nil
  | some k :: ks, v :: vs => match r k, r v with
    | some a, some b => (cPs ks vs).map (.cons a b)
    | _, _ => none
  | _, _ => none
def cO : Option Expr → Option O
  | none => some .none
  | some e => (r e).map .some
def cBool (op : BoolOp) : List Expr → Option E
  | [] => none
  | [e] => r e
  | e :: es => match r e, cBool op es with
    | some a, some b => some (match op with
      | .And => .and a b
      | .Or => .or a b)
    | _, _ => none
def cCmp (a : Expr) : List CmpOp → List Expr → Option E
  | [op], [b] => if behindInMarks op b then none else match cCop op, r a, r b with
    | some o, some x, some y => some (.cmp o x y)
    | _, _, _ => none
  | [op, op'], [b, c] => if behindInMarks op b || behindInMarks op' c then none else match cCop op, cCop op', r a, r b, r c with
    | some o, some o', some x, some y, some z => some (.chain o o' x y z)
    | _, _, _, _, _ => none
  | _, _ => none
end
def bTab : List (PySem.Str × B) := [(("len" : PySem.Str), .len), (("int" : PySem.Str), .int), (("str" : PySem.Str), .str), (("bool" : PySem.Str), .bool), (("abs" : PySem.Str), .abs), (("list" : PySem.Str), .list), (("tuple" : PySem.Str), .tuple),
  (("dict" : PySem.Str), .dict), (("sorted" : PySem.Str), .sorted), (("repr" : PySem.Str), .repr), (("sum" : PySem.Str), .sum), (("min" : PySem.Str), .min), (("max" : PySem.Str), .max), (("any" : PySem.Str), .any), (("all" : PySem.Str), .all)]
def tyTab : List (PySem.Str × Ty) := [(("int" : PySem.Str), .int), (("bool" : PySem.Str), .bool), (("str" : PySem.Str), .str), (("list" : PySem.Str), .list), (("tuple" : PySem.Str), .tuple)]
def mTab : List (PySem.Str × M) := [(("append" : PySem.Str), .append), (("pop" : PySem.Str), .pop), (("clear" : PySem.Str), .clear), (("index" : PySem.Str), .lindex), (("get" : PySem.Str), .get), (("join" : PySem.Str), .join)]
def tyName (sc : Scope) : Expr → Option Ty
  | .Name x _ => if isGl sc x then tyTab.lookup x else none
  | _ => none
/-- f(..) of a global name -/
def cCall (T : Tab) (sc : Scope) (r : Expr → Option E) (x : PySem.Str) (args : List Expr) : Option E :=
  if odd x || !isGl sc x then none else
  if x = ("isinstance" : PySem.Str) then (match args with
    | [a, t] => if plainE a then (match r a, tyName sc t with
      | some i, some ty => some (.isi i [ty])
      | _, _ => none) else none
    | _ => none) else
  match T.fns.lookup x with
  | some f => (cEs r args).map (.call f)
  | none => match T.cls.lookup x with
    | some c => (cEs r args).map (.new c)
    | none => match bTab.lookup x, args with
      | some b, _ :: _ => (cEs r args).map (.blt b)
      | _, _ => none
/-- o.m(..) -/
def cMeth (T : Tab) (r : Expr → Option E) (o : Expr) (m : PySem.Str) (args : List Expr) (lines : Bool) : Option E :=
  if T.mth.contains m then (match txOf m, r o, cEs r args with
    | some t, some i, some es => some (.meth i (String.ofList t) es)
    | _, _, _ => none)
  else if lines && decide (args.length < 30) then (match mTab.lookup m, r o, cEs r args with
    | some b, some i, some es => some (.bm i b es)
    | _, _, _ => none) else none
/-- no call without arguments stands here -/
def noSuper : Expr → Bool
  | .Call (.Name _ _) [] [] _ => false
  | _ => true
/-- targets -/
def cTs (rt : Expr → Option T) : List Expr → Option Ts
  | [] => some .nil
  | e :: es => if plainE e then (match rt e, cTs rt es with
    | some a, some b => some (.cons a b)
    | _, _ => none) else none
/-- targets of names alone -/
def cTn (N : List PySem.Str) (sc : Scope) : Nat → Expr → Option T
  | 0, _ => none
  | n + 1, e => match e with
    | .Name x _ => if isLoc sc x then (slotAt x N 0).map .name else none
    | .Tuple es _ _ => (cTs (cTn N sc n) es).map .tup
    | _ => none
def cTg (N : List PySem.Str) (sc : Scope) (r : Expr → Option E) : Nat → Expr → Option T
  | 0, _ => none
  | n + 1, e => match e with
    | .Name x _ => if isLoc sc x then (slotAt x N 0).map .name else none
    | .Tuple es _ _ => (cTs (cTg N sc r n) es).map .tup
    | .Subscript o i _ => if plainE i then (match r o, r i with
      | some a, some b => some (.sub a b)
      | _, _ => none) else none
    | _ => none
/-- what is walked; tg: the target -/
def isTup : Expr → Bool
  | .Tuple _ _ _ => true
  | _ => false
def rawSeq : Expr → Bool
  | .Call (.Name x _) _ _ _ => !(x == ("range" : PySem.Str) || x == ("enumerate" : PySem.Str) || x == ("zip" : PySem.Str) || x == ("reversed" : PySem.Str))
  | .Call (.Attribute _ x _) _ _ _ => !(x == ("items" : PySem.Str) || x == ("values" : PySem.Str) || x == ("keys" : PySem.Str))
  | _ => true
def cI (sc : Scope) (r : Expr → Option E) (tg : Expr) (it : Expr) : Option I :=
  if plainE it then (if rawSeq it then (r it).map .seq else match it with
    | .Call (.Name x _) args [] _ => if isGl sc x then
        (if x = ("range" : PySem.Str) then (if args.length = 1 ∨ args.length = 2 then (cEs r args).map .range else none)
         else if x = ("enumerate" : PySem.Str) then (match args with
          | [a] => if isTup tg && plainE a then (r a).map .enum else none
          | _ => none)
         else if x = ("zip" : PySem.Str) then (match args with
          | [a, b] => if isTup tg && plainE a && plainE b then (match r a, r b with
            | some i, some j => some (.zip i j)
            | _, _ => none) else none
          | _ => none)
         else if x = ("reversed" : PySem.Str) then (match args with
          | [a] => if plainE a then (r a).map .rev else none
          | _ => none)
         else none) else none
    | _ => none) else none
mutual
def slotsT : T → List Nat
  | .name i => [i]
  | .tup ts => slotsTs ts
  | .attr _ _ => []
  | .sub _ _ => []
def slotsTs : Ts → List Nat
  | .nil => []
  | .cons t r => slotsT t ++ slotsTs r
end
/-- the slots of a block's own names -/
def ownOf (N : List PySem.Str) : List (PySem.Str × NameKind) → List (PySem.Str × Nat)
  | [] => []
  | (x, k) :: r => match k with
    | .local => (match slotAt x N 0 with
      | some i => (x, i) :: ownOf N r
      | none => ownOf N r)
    | .cell => (match slotAt x N 0 with
      | some i => (x, i) :: ownOf N r
      | none => ownOf N r)
    | _ => ownOf N r
/-- one level of an expression -/
def stepE (T : Tab) (N : List PySem.Str) (rr : Scope → Expr → Option E) (sc : Scope) (e : Expr) : Option E := match e with
  | .Name x _ => cName T N sc x
  | .Constant c _ _ => cConst c
  | .BinOp a op b _ => (match cOp op, rr sc a, rr sc b with
    | some o, some x, some y => some (.bin o x y)
    | _, _, _ => none)
  | .UnaryOp op a _ => (match op with
    | .USub => (rr sc a).map .neg
    | .Not => (rr sc a).map .not
    | _ => none)
  | .BoolOp op vs _ => cBool (rr sc) op vs
  | .IfExp c a b _ => (match rr sc c, rr sc a, rr sc b with
    | some x, some y, some z => some (.ite x y z)
    | _, _, _ => none)
  | .Compare a ops cs _ => cCmp (rr sc) a ops cs
  | .Tuple es _ _ => (cEs (rr sc) es).map .tup
  | .List es _ => (cEs (rr sc) es).map .lst
  | .Dict ks vs _ => if ks.length ≤ 15 then (cPs (rr sc) ks vs).map .dict else none
  | .Subscript a i _ => (match i with
    | .Slice lo hi none _ => (match rr sc a, cO (rr sc) lo, cO (rr sc) hi with
      | some x, some y, some z => some (.slc x y z)
      | _, _, _ => none)
    | i => if plainE i then (match rr sc a, rr sc i with
      | some x, some y => some (.idx x y)
      | _, _ => none) else none)
  | .ListComp elt gens scope _ => (match gens with
    | [⟨tg, it, ifs, 0⟩] => if blkC N sc scope (ownOf N scope.names) && decide (ifs.length ≤ 1) then (match cI sc (rr sc) tg it, cTn N scope 5 tg, cEs (rr (relS scope sc)) ifs, rr (relS scope sc) elt with
      | some i, some t, some cs, some x => if (slotsT t).all (fun i => ((ownOf N scope.names).map (·.2)).contains i) then some (.lc t i x cs ((ownOf N scope.names).map (·.2))) else none
      | _, _, _, _ => none) else none
    | _ => none)
  | .Call f args kws pos => (match kws with
    | [] => (match f with
      | .Name x _ => cCall T sc (rr sc) x args
      | .Attribute o m apos => if noSuper o then cMeth T (rr sc) o m args (apos.endLine == pos.line) else none
      | _ => none)
    | _ => none)
  | .Attribute o f _ => if T.cls.isEmpty then none else if noSuper o then (match txOf f, rr sc o with
    | some t, some i => some (.attr i (String.ofList t))
    | _, _ => none) else none
  | _ => none
def cE (T : Tab) (N : List PySem.Str) : Nat → Scope → Expr → Option E
  | 0, _, _ => none
  | n + 1, sc, e => stepE T N (cE T N n) sc e
/-! ### statements -/
def cSs (r : Stmt → Option S) : List Stmt → Option Ss
  | [] => some .nil
  | s :: ss => match r s with
    | some a => (cSs r ss).map (.cons a)
    | none => none
/-- name = [.. for ..]: whether the stores are exchanged -/
def isComp : Expr → Bool
  | .ListComp _ _ _ _ => true
  | .SetComp _ _ _ _ => true
  | .DictComp _ _ _ _ _ => true
  | _ => false
/-- a, b = c, d -/
def isTupE : Expr → Bool
  | .Tuple _ _ _ => true
  | _ => false
def stepS (T : Tab) (N : List PySem.Str) (sc : Scope) (ce : Expr → Option E) (rs : Stmt → Option S) (s : Stmt) : Option S := match s with
  | .Expr e _ => (match e with
    | .Constant (.str _) _ _ => some .pass
    | e => if isComp e then none else (ce e).map .expr)
  | .Assign ts e pos => (match ts with
    | [tg] => (match tg with
      | .Name x p => if isLoc sc x then (match slotAt x N 0, ce e with
        | some i, some a => some (.asg (.name i) a)
        | _, _ => none) else none
      | .Tuple es k p => if isTupE e then none else (match cTg N sc ce 5 (.Tuple es k p), ce e with
        | some t, some a => some (.asg t a)
        | _, _ => none)
      | .Subscript o i p => if plainE i then (match ce o, ce i, ce e with
        | some x, some y, some a => some (.asg (.sub x y) a)
        | _, _, _ => none) else none
      | .Attribute o f p => if T.cls.isEmpty || isComp e then none else if noSuper o then (match txOf f, ce o, ce e with
        | some t, some x, some a => some (.asg (.attr x (String.ofList t)) a)
        | _, _, _ => none) else none
      | _ => none)
    | _ => none)
  | .AugAssign tg op e _ => (match tg with
    | .Name x _ => if isLoc sc x then (match slotAt x N 0, cAug op, ce e with
      | some i, some o, some a => some (.augn i o a)
      | _, _, _ => none) else none
    | .Attribute o f _ => if T.cls.isEmpty then none else if noSuper o then (match txOf f, ce o, cAug op, ce e with
      | some t, some x, some op, some a => some (.auga x (String.ofList t) op a)
      | _, _, _, _ => none) else none
    | _ => none)
  | .Return v _ => (match v with
    | some e => (ce e).map .ret
    | none => some .retn)
  | .If c a b _ => (match ce c, cSs rs a, cSs rs b with
    | some x, some y, some z => some (.ite x y z)
    | _, _, _ => none)
  | .While c b orelse _ => (match orelse with
    | [] => (match ce c, cSs rs b with
      | some x, some y => some (.whil x y)
      | _, _ => none)
    | _ => none)
  | .For tg it b orelse _ => (match orelse with
    | [] => (match cTn N sc 5 tg, cI sc ce tg it, cSs rs b with
      | some t, some i, some y => some (.for t i y)
      | _, _, _ => none)
    | _ => none)
  | .Break _ => some .brk
  | .Continue _ => some .cont
  | .Pass _ => some .pass
  | .Delete ts _ => (match ts with
    | [.Subscript o i _] => if plainE i then (match ce o, ce i with
      | some x, some y => some (.del x y)
      | _, _ => none) else none
    | _ => none)
  | .Raise exc cause _ => (match exc, cause with
    | some (.Call (.Name x _) [.Constant (.str _) _ _] [] _), none => if isGl sc x && !odd x then (T.cls.lookup x).map .raise else none
    | _, _ => none)
  | .Try b hs orelse fin _ => (match hs, orelse, fin with
    | [.ExceptHandler (some (.Name x _)) none h _], [], [] => if isGl sc x && !odd x then (match T.cls.lookup x, cSs rs b, cSs rs h with
      | some c, some y, some z => some (.tryx y c z)
      | _, _, _ => none) else none
    | _, _, _ => none)
  | _ => none
def cS (T : Tab) (N : List PySem.Str) (sc : Scope) (ce : Expr → Option E) : Nat → Stmt → Option S
  | 0, _ => none
  | n + 1, s => stepS T N sc ce (cS T N sc ce n) s
/-- a def -/
def cFn (T : Tab) (N : List PySem.Str) (params : Nat) (sc : Scope) (body : List Stmt) : Option Fn :=
  (cSs (cS T N sc (cE T N 40 sc) 40) body).map fun b => ⟨N.length, params, b⟩
end G
/-! The G machine over the hand layer: defs and their calls (the library's own, with no guard around). -/
set_option Elab.async false
set_option linter.all false
set_option maxRecDepth 100000
namespace G
open PySem PySem.Spec L2 PyProof.Rows
/-- room, and no guard -/
structure RoomG (k : Nat) (A : Around) : Prop where
  room : Room k A
  gd : A.guards = some []
theorem RoomG.mono {j k : Nat} {A : Around} (r : RoomG k A) (h : j ≤ k) : RoomG j A := ⟨r.room.mono h, r.gd⟩
theorem RoomG.deeper {k : Nat} {A : Around} (r : RoomG (k + 1) A) (env : PySem.Env) : RoomG k (A.deeper env) := ⟨r.room.deeper env, r.gd⟩
structure FnO (P : Program) (w : World) (K : PySem.W.Frag) (mg : PySem.Str → Option Value) (base : Heap) (k : Nat) (f : Addr) (fd : FuncData) (ps : List PySem.Str) (sp : Sp) : Prop where
  len : ∀ vs H Q E, sp vs H Q E → vs.length = ps.length
  run : ∀ (A : Around) (outer : List PySem.Env) (s : Shared) (H : Hp) (args : Args) (us : List Value) (vs : List V) (Q : VK) (E : XK), RoomG k A →
    Env0 P w K mg base A outer s H → BindsTo s fd args (ps.zip us) → Vals vs us → sp vs H Q E → codeAny (model P w) A (.call (.ref f) args) (CR (CX P w) outer P w H s Q E) s
/-- what a call of the machine's f promises -/
def sG (K : PySem.W.Frag) (mg : PySem.Str → Option Value) (C : Ctx) (f : String) : Sp := fun vs H Q E => ∃ m μ ds, RelG K mg m H μ ∧ Rps K m vs ds ∧
  PostG K mg (fun c _ _ H' => ∀ A, clM mg c = some A → E (.ref A) none H') m H (C.call f ds μ) fun d _ m' H' => ∀ v, Rp K m' v d → Q v H'
/-- the def at a is the machine's f -/
def FnG (P : Program) (w : World) (K : PySem.W.Frag) (mg : PySem.Str → Option Value) (base : Heap) (A : Around) (C : Ctx) (a : Addr) (f : String) : Prop :=
  ∃ k fd ps, FnO P w K mg base k a fd ps (sG K mg C f) ∧ RoomG k A ∧ Binds K fd ps []
section
variable {X : Cx} {C : Ctx} {W : WX}
theorem run_G {a : Addr} {f : String} {pins : List (Addr × Obj)} {σ : L2.St} {H : Hp} {s : Shared} {Q : VK} {us : List Value} {vs : List V} (F : FnG X.prog X.w X.K X.mg X.base X.A C a f) (tk : Takes X W) (I : L2.Inv X pins σ H s) (r : Vals vs us)
    (h : sG X.K X.mg C f vs H Q (WE W σ)) : wpAny (model X.prog X.w) X.A (call (.ref a) us) (EP X pins σ Q) X.xe s := by
  obtain ⟨k, fd, ps, F, room, hb⟩ := F
  have h0 : vs.length = ps.length := F.len _ _ _ _ h
  have h1 : us.length = ps.length := by rw [← r.length]; exact h0
  have b := hb s us I.kIn (by rw [List.append_nil]; exact h1)
  rw [List.append_nil] at b
  refine wpAny_call (codeAny_mono (F.run X.A X.stack s H ⟨us, []⟩ us vs Q (WE W σ) room I.env0 b r h) fun z s' hz => ?_)
  cases z with
  | error e => exact passAt tk σ pins H s e s' I hz
  | ok fl =>
    cases fl with
    | ret u => exact I.after hz
    | _ => exact False.elim hz
/-- f(..) -/
theorem e_call {a : Addr} {f : String} {x : PySem.Str} {e : Expr} {es : List Expr} {is : Es} {p pos : Pos} (F : FnG X.prog X.w X.K X.mg X.base X.A C a f) (tk : Takes X W) (hg : Gl X x) (hm : X.mg x = some (.ref a)) (hk : PySem.W.keepIn X.K (.ref a) = true) (hdb : (x == ("__debug__" : PySem.Str)) = false)
    (ha : PA X (e :: es) (tEs C X W is)) (h1 : starEach (e :: es) X.env = (false, eval e X.env) :: starEach es X.env) (h2 : (backTo pos (starEach es X.env)).any (·.1) = false) : PE X (.Call (.Name x p) (e :: es) [] pos) (tE C X W (.call f is)) := by
  refine ⟨fun pins s σ H Q I q => ?_⟩
  obtain ⟨m, ρ, μ, rel, loc, pp⟩ := q
  simp only [evalE] at pp
  have hA := ha.run pos pins s σ H (fun vs H1 => sG X.K X.mg C f vs H1 Q (WE W σ)) I ⟨m, ρ, μ, rel, loc, pp.bind.imp fun xs μ1 m1 H1 x1 rel1 p1 vs rvs => ⟨m1, μ1, xs, rel1, rvs, p1⟩⟩
  refine wpAny_Call_Name_kw (ld_glob I hg hm ?_ hdb)
  exact PySem.W.callWith_K (h₀ := X.base) I.ok.mod.kin hk (thn hA fun us s1 ⟨vs, H1, I1, r, q⟩ => ⟨I1.kIn, run_G F tk I1 r q⟩) h1 h2
/-- f() -/
theorem e_call0 {a : Addr} {f : String} {x : PySem.Str} {p pos : Pos} (F : FnG X.prog X.w X.K X.mg X.base X.A C a f) (tk : Takes X W) (hg : Gl X x) (hm : X.mg x = some (.ref a)) (hk : PySem.W.keepIn X.K (.ref a) = true) (hdb : (x == ("__debug__" : PySem.Str)) = false) :
    PE X (.Call (.Name x p) [] [] pos) (tE C X W (.call f .nil)) := by
  refine ⟨fun pins s σ H Q I q => ?_⟩
  obtain ⟨m, ρ, μ, rel, loc, pp⟩ := q
  simp only [evalE, evalEs] at pp
  refine wpAny_Call_Name_kw (ld_glob I hg hm ?_ hdb)
  exact PySem.W.callWith_K0 I.kIn hk (run_G (us := []) F tk I .nil ⟨m, μ, [], rel, .nil, pp⟩)
end
/-- a def's body keeps the promise -/
theorem fnO_of {P : Program} {w : World} {K : PySem.W.Frag} {mg : PySem.Str → Option Value} {base : Heap} {k : Nat} {f : Addr} {name qual : PySem.Str} {params : Arguments} {body : List Stmt} {scope : Scope} {dV kV doc pm cdv ct oc : Value} {an od : Option Addr}
    {osl : Array (Option Value)} {N ps : List PySem.Str} {sp : Sp} (lk : K.lookup f = some ⟨oc, od, .func (PySem.W.fnOf name qual params body scope dV kV doc pm an cdv ct), osl⟩) (hcd : PySem.W.codeIn K cdv qual = true) (S : FnScope N ps scope)
    (len : ∀ vs H Q E, sp vs H Q E → vs.length = ps.length)
    (hb : ∀ (A : Around) (outer : List PySem.Env) (s : Shared) (H : Hp) (vs : List V) (Q : VK) (E : XK), RoomG k (A.deeper (envOfC qual scope s.heap.objs.size f cdv)) → sp vs H Q E →
      ∃ t, PSs (cxOf (CX P w) P w K mg base N qual scope f cdv A outer s H E) body t ∧ t { nx := fun _ H' => Q .non H', rt := Q } (start N vs) H) : FnO P w K mg base (k + 1) f (PySem.W.fnOf name qual params body scope dV kV doc pm an cdv ct) ps sp := by
  refine ⟨len, fun A outer s H args us vs Q E room e0 hbind rv hsp => ?_⟩
  have KS : K.In s.heap := e0.mod.kin.keeps fun b o e => (e0.bs b o e).1
  have noLim : s.heap.NoLimit := e0.mod.nolimit.keeps fun b o e => (e0.bs b o e).1
  refine codeAny_call_function room.room.depth (KS _ _ lk) rfl S.co S.gen rfl (PySem.W.codeRec_of KS hcd) (hbind _ _ _ _ ?_)
  refine wpAny_newFunctionEnv_cells S.kind (fun ⟨n, v⟩ hy => ?_) fun env he s1 x => ?_
  · rcases S.par n (List.of_mem_zip hy).1 with q | q
    · exact .inl q
    · exact .inr ⟨q, PySem.W.cellsFrom_some _ _ _ (.inl q)⟩
  subst he
  refine ⟨noLim.keeps x.toInCall.keep, codeAny_func ?_⟩
  obtain ⟨t, ht, hq⟩ := hb A outer s H vs Q E (room.deeper _) hsp
  have I := inv_start (CX := CX P w) (E := E) S room.room.hd e0 (len _ _ _ _ hsp) rv x
  refine wpAny_mono (ht.run [] s1 (start N vs) H _ I hq) (fun fl s' hs => ?_) fun e s' hs => hs
  cases fl with
  | ret u =>
    obtain ⟨v, σ', H', J, r, q⟩ := hs
    exact (⟨v, H', J.os, J.bare, J.base, J.hok, r, q⟩ : CE outer P w H s Q u s')
  | next =>
    obtain ⟨σ', H', J, q⟩ := hs
    exact (⟨V.non, H', J.os, J.bare, J.base, J.hok, rfl, q⟩ : CE outer P w H s Q Value.none s')
  | brk =>
    obtain ⟨_, _, _, q⟩ := hs
    exact q.elim
  | cont =>
    obtain ⟨_, _, _, q⟩ := hs
    exact q.elim
end G
/-! The G machine over the hand layer: what is compiled is served (expressions). -/
set_option Elab.async false
set_option linter.all false
set_option maxRecDepth 100000
namespace G
open PySem PySem.Spec L2
section
variable {X : Cx}
/-- no exception comes of it -/
def Calm {α : Type} (r : R α) : Prop := ∀ c μ, r ≠ .ex c μ
theorem PostG.still {α : Type} {Xc Xd : String → Mem → Mp → Hp → Prop} {m : Mp} {H : Hp} {r : R α} {k : α → Mem → Mp → Hp → Prop} (h : Post X Xc m H r k) (c : Calm r) : Post X Xd m H r k := by
  cases r with
  | bad => exact h
  | ok a μ => exact h
  | ex d μ => exact absurd rfl (c d μ)
theorem calm_ok {α : Type} {a : α} {μ : Mem} : Calm (R.ok a μ) := fun _ _ e => nomatch e
theorem calm_bad {α : Type} : Calm (R.bad : R α) := fun _ _ e => nomatch e
theorem calm_newL {ds : List D} {μ : Mem} : Calm (newL ds μ) := fun _ _ e => nomatch e
theorem ints2_calm {f : Int → Int → Option D} {a b : D} {μ : Mem} : Calm (ints2 f a b μ) := by
  unfold ints2
  repeat' split
  all_goals first | exact calm_ok | exact calm_bad
theorem bin_calm (op : Op) (a b : D) (μ : Mem) : Calm (bin op a b μ) := by
  cases op with
  | add =>
    show Calm (addD a b μ)
    unfold addD addL
    repeat' split
    all_goals first | exact calm_ok | exact calm_bad | exact calm_newL
  | mul =>
    show Calm (mulD a b μ)
    unfold mulD mulL
    repeat' split
    all_goals first | exact calm_ok | exact calm_bad | exact calm_newL
  | sub => unfold bin; exact ints2_calm
  | fdiv => unfold bin; exact ints2_calm
  | mod => unfold bin; exact ints2_calm
  | pow => unfold bin; exact ints2_calm
  | band => unfold bin; exact ints2_calm
theorem neg_calm (a : D) (μ : Mem) : Calm (neg a μ) := by
  unfold neg
  repeat' split
  all_goals first | exact calm_ok | exact calm_bad
theorem cmpR_calm (op : Cmp) (a b : D) (μ : Mem) : Calm (cmpR op a b μ) := by
  unfold cmpR
  repeat' split
  all_goals first | exact calm_ok | exact calm_bad
theorem item_calm (a b : D) (μ : Mem) : Calm (item a b μ) := by
  unfold item itemL
  repeat' split
  all_goals first | exact calm_ok | exact calm_bad
theorem slice_calm (a : D) (l h : Option Int) (μ : Mem) : Calm (slice a l h μ) := by
  unfold slice
  repeat' split
  all_goals first | exact calm_ok | exact calm_bad | exact calm_newL
theorem blt_calm (f : B) (as : List D) (μ : Mem) : Calm (blt f as μ) := by
  unfold blt bLen bInt bStr bBool bAbs bList bTuple bDict bRepr bSorted bInts bBools
  repeat' split
  all_goals first | exact calm_ok | exact calm_bad | exact calm_newL | exact ints2_calm
theorem bmeth_calm (fr : Bool) (o : D) (f : M) (as : List D) (μ : Mem) : Calm (bmeth fr o f as μ) := by
  unfold bmeth mAppend mPop mPopAt mClear mGet mJoin mText mSplit mIndex
  split
  all_goals (repeat' split)
  all_goals first | exact calm_ok | exact calm_bad | exact calm_newL
/-! ### the readings -/
def tT (C : Ctx) (X : Cx) (W : WX) (i : E) : TT := fun σ H Q => ∃ m ρ μ, RelM X m H μ ∧ Loc X m σ ρ ∧ Post X (xw X W σ) m H (evalE C i ρ μ) fun d μ' m' H' => ∃ b, truth μ' d = some b ∧ Q b H'
/-- what stands around a text -/
structure Ok (T : Tab) (C : Ctx) (X : Cx) (W : WX) : Prop where
  calm : X.calm = true
  nd : X.N.Nodup
  lib : Lib X.mg
  unit : X.A.units + 200 < cLine
  gd : X.A.guards = some []
  takes : Takes X W
  con : ∀ x d, T.con.lookup x = some d → ∃ v u, X.mg x = some u ∧ RelV v u ∧ ∀ m, Rp X.K m v d
  fns : ∀ x f, T.fns.lookup x = some f → ∃ a, X.mg x = some (.ref a) ∧ PySem.W.keepIn X.K (.ref a) = true ∧ FnG X.prog X.w X.K X.mg X.base X.A C a f
  cls : T.cls = []
  mth : T.mth = []
theorem Ok.hu {T : Tab} {C : Ctx} {W : WX} (o : Ok T C X W) : X.A.units + 64 < cLine := by have := o.unit; omega
variable {T : Tab} {C : Ctx} {W : WX}
theorem slotAt_ok {x : PySem.Str} : ∀ {N : List PySem.Str} {n i : Nat}, slotAt x N n = some i → n ≤ i ∧ N[i - n]? = some x
  | [], _, _, h => by simp [slotAt] at h
  | y :: ys, n, i, h => by
    unfold slotAt at h
    split at h
    · next e =>
      cases h
      subst e
      exact ⟨Nat.le_refl _, by simp⟩
    · obtain ⟨h1, h2⟩ := slotAt_ok h
      refine ⟨by omega, ?_⟩
      have : i - n = (i - (n + 1)) + 1 := by omega
      rw [this]
      simpa using h2
theorem slot_at {x : PySem.Str} {N : List PySem.Str} {i : Nat} (h : slotAt x N 0 = some i) : N[i]? = some x := by simpa using (slotAt_ok h).2
theorem isVis_ok {sc : Scope} {x : PySem.Str} (h : isVis sc x = true) : Vis sc x := by
  unfold isVis at h
  unfold Vis
  split at h
  · next e => exact .inl e
  · next e => exact .inr (.inl e)
  · next e => exact .inr (.inr e)
  · cases h
theorem isGl_ok {x : PySem.Str} (h : isGl X.env.scope x = true) : Gl X x := by
  unfold isGl at h
  split at h
  · next e => exact e
  · cases h
theorem isLoc_ok {sc : Scope} {x : PySem.Str} (h : isLoc sc x = true) : L2.Loc sc x := by
  unfold isLoc at h
  unfold L2.Loc
  split at h
  · next e => exact .inl e
  · next e => exact .inr e
  · cases h
theorem odd_ok {x : PySem.Str} (h : odd x = false) : (x == ("__debug__" : PySem.Str)) = false ∧ (x == ("__classdict__" : PySem.Str)) = false ∧ x ≠ "__name__" := by
  unfold odd at h
  simp only [Bool.or_eq_false_iff] at h
  exact ⟨h.1.1, h.1.2, by simpa using h.2⟩
theorem map_ofNat : ∀ {l : List Nat}, (l.all fun n => decide (n.isValidChar)) = true → (l.map Char.ofNat).map Char.toNat = l
  | [], _ => rfl
  | n :: l, h => by
    simp only [List.all_cons, Bool.and_eq_true, decide_eq_true_eq] at h
    rw [List.map_cons, List.map_cons, map_ofNat h.2]
    have hv : n.isValidChar := h.1
    have e : (Char.ofNat n).toNat = n := by
      unfold Char.ofNat
      rw [dif_pos hv]
      show (Char.ofNatAux n hv).toNat = n
      rfl
    rw [e]
theorem txOf_ok {x : PySem.Str} {t : Tx} (h : txOf x = some t) : cs t = x ∧ t.length ≤ line := by
  unfold txOf at h
  split at h
  · next e =>
    simp only [Bool.and_eq_true, decide_eq_true_eq] at e
    cases h
    refine ⟨?_, by rw [List.length_map]; exact e.2⟩
    unfold cs
    rw [map_ofNat e.1]
  · cases h
/-! ### names and constants -/
theorem e_lit {e : Expr} {v : V} {d : D} (h : PE X e (tC v)) (r : ∀ m, Rp X.K m v d) : PE X e (tE C X W (.lit d)) := by
  refine imE h fun σ H Q q => ?_
  obtain ⟨m, ρ, μ, rel, loc, p⟩ := q
  exact PostG.give rel p (r m)
theorem e_var {i : Nat} {x : PySem.Str} {pos : Pos} (hx : slotAt x X.N 0 = some i) (hv : isVis X.env.scope x = true) (ho : odd x = false) : PE X (.Name x pos) (tE C X W (.var i)) := by
  obtain ⟨o1, o2, _⟩ := odd_ok ho
  refine imE (pe_var (slot_at hx) (isVis_ok hv) o1 o2) fun σ H Q q => ?_
  obtain ⟨m, ρ, μ, rel, loc, p⟩ := q
  simp only [evalE] at p
  split at p
  · next d e =>
    obtain ⟨v, e1, r⟩ := loc.2 i d e
    exact ⟨v, e1, PostG.give rel p r⟩
  · exact p.elim
theorem name_ok (ok : Ok T C X W) {x : PySem.Str} {pos : Pos} {i : E} (h : cName T X.N X.env.scope x = some i) : PE X (.Name x pos) (tE C X W i) := by
  unfold cName at h
  split at h
  · cases h
  · next ho =>
    have ho : odd x = false := by simpa using ho
    split at h
    · next hv =>
      cases e : slotAt x X.N 0 with
      | none => rw [e] at h; cases h
      | some k =>
        rw [e] at h
        cases h
        exact e_var e hv ho
    · split at h
      · next hg =>
        cases e : T.con.lookup x with
        | none => rw [e] at h; cases h
        | some d =>
          rw [e] at h
          cases h
          obtain ⟨v, u, h1, h2, h3⟩ := ok.con x d e
          exact e_lit (pe_glob (isGl_ok hg) h1 h2 (odd_ok ho).1) h3
      · cases h
theorem const_ok {c : Const} {k : Nat} {pos : Pos} {i : E} (h : cConst c = some i) : PE X (.Constant c k pos) (tE C X W i) := by
  cases c with
  | none => cases h; exact e_lit pe_non fun _ => .non
  | bool b => cases h; exact e_lit pe_bl fun _ => .bl b
  | int n => cases h; exact e_lit pe_int fun _ => .int n
  | str x =>
    simp only [cConst, Option.map_eq_some_iff] at h
    obtain ⟨t, h1, rfl⟩ := h
    obtain ⟨e, l⟩ := txOf_ok h1
    exact e_lit pe_str fun _ => by rw [← e]; exact .str t l
  | _ => cases h
/-! ### operators -/
theorem e_bin {op : Op} {a b : Expr} {i j : E} {pos : Pos} (ha : PE X a (tE C X W i)) (hb : PE X b (tE C X W j)) : PE X (.BinOp a (opOf op) b pos) (tE C X W (.bin op i j)) := by
  refine imE (pe_op (op_bin op) ha hb) fun σ H Q q => ?_
  obtain ⟨m, ρ, μ, rel, loc, p⟩ := q
  simp only [evalE] at p
  refine ⟨m, ρ, μ, rel, loc, p.bind.imp fun x μ1 m1 H1 x1 rel1 p1 v rv => ?_⟩
  refine ⟨m1, ρ, μ1, rel1, loc.mono x1.le, p1.bind.imp fun y μ2 m2 H2 x2 rel2 p2 w rw => ?_⟩
  exact ⟨m2, μ2, x, y, rel2, rv.mono x2.le, rw, p2.still (bin_calm op x y μ2)⟩
theorem e_neg {a : Expr} {i : E} {pos : Pos} (ha : PE X a (tE C X W i)) : PE X (.UnaryOp .USub a pos) (tE C X W (.neg i)) := by
  refine imE (pe_un un_neg' ha) fun σ H Q q => ?_
  obtain ⟨m, ρ, μ, rel, loc, p⟩ := q
  simp only [evalE] at p
  exact ⟨m, ρ, μ, rel, loc, p.bind.imp fun x μ1 m1 H1 x1 rel1 p1 v rv => ⟨m1, μ1, x, rel1, rv, p1.still (neg_calm x μ1)⟩⟩
theorem e_not {a : Expr} {i : E} {pos : Pos} (ha : PE X a (tE C X W i)) : PE X (.UnaryOp .Not a pos) (tE C X W (.not i)) := by
  refine imE (pe_notT ha) fun σ H Q q => ?_
  obtain ⟨m, ρ, μ, rel, loc, p⟩ := q
  simp only [evalE] at p
  refine ⟨m, ρ, μ, rel, loc, p.bind.imp fun x μ1 m1 H1 x1 rel1 p1 v rv => ?_⟩
  cases e : truth μ1 x with
  | none => rw [e] at p1; exact p1.elim
  | some b =>
    rw [e] at p1
    exact ⟨b, tru_of rel1 rv e, PostG.give rel1 p1 (.bl _)⟩
theorem e_cmp (hu : X.A.units + 64 < cLine) {op : Cmp} {a b : Expr} {i j : E} {pos : Pos} (ha : PE X a (tE C X W i)) (hb : PE X b (tE C X W j)) (hm : behindInMarks (copOf op) b = false) : PE X (.Compare a [copOf op] [b] pos) (tE C X W (.cmp op i j)) := by
  refine imE (pe_cmpR (op_cmp hu op) ha hb hm) fun σ H Q q => ?_
  obtain ⟨m, ρ, μ, rel, loc, p⟩ := q
  simp only [evalE] at p
  refine ⟨m, ρ, μ, rel, loc, p.bind.imp fun x μ1 m1 H1 x1 rel1 p1 v rv => ?_⟩
  refine ⟨m1, ρ, μ1, rel1, loc.mono x1.le, p1.bind.imp fun y μ2 m2 H2 x2 rel2 p2 w rw => ?_⟩
  exact ⟨m2, μ2, x, y, rel2, rv.mono x2.le, rw, p2.still (cmpR_calm op x y μ2)⟩
/-- a comparison's answer by cmpD -/
theorem r2_cmp {op : Cmp} {m : Mp} {H : Hp} {μ : Mem} {x y : D} {v w : V} {b : Bool} {Q : VK} (rel : RelM X m H μ) (rv : Rp X.K m v x) (rw : Rp X.K m w y) (e : cmpD op x y μ = some b) (q : ∀ m' H', Ext m H m' H' → RelM X m' H' μ → Q (.bl b) H') : r2 X (cmpR op) v w H Q := by
  refine ⟨m, μ, x, y, rel, rv, rw, ?_⟩
  unfold cmpR
  rw [e]
  intro m' H' x' rel' z rz
  cases rz
  exact q m' H' x' rel'
theorem e_chain (hu : X.A.units + 64 < cLine) {op op' : Cmp} {a b c : Expr} {i j k : E} {pos : Pos} (ha : PE X a (tE C X W i)) (hb : PE X b (tE C X W j)) (hc : PE X c (tE C X W k)) (hm : lastMarks [copOf op, copOf op'] [b, c] = false) :
    PE X (.Compare a [copOf op, copOf op'] [b, c] pos) (tE C X W (.chain op op' i j k)) := by
  refine imE (pe_chain (op_cmp hu op) (op_cmp hu op') ha hb hc hm) fun σ H Q q => ?_
  obtain ⟨m, ρ, μ, rel, loc, p⟩ := q
  simp only [evalE] at p
  refine ⟨m, ρ, μ, rel, loc, p.bind.imp fun x μ1 m1 H1 x1 rel1 p1 v rv => ?_⟩
  refine ⟨m1, ρ, μ1, rel1, loc.mono x1.le, p1.bind.imp fun y μ2 m2 H2 x2 rel2 p2 w rw => ?_⟩
  cases e : cmpD op x y μ2 with
  | none => rw [e] at p2; exact p2.elim
  | some t =>
    rw [e] at p2
    refine r2_cmp rel2 (rv.mono x2.le) rw e fun m3 H3 x3 rel3 => ⟨t, rfl, ?_⟩
    cases t with
    | false => exact PostG.give rel3 (p2.on x3) (.bl _)
    | true =>
      refine ⟨m3, ρ, μ2, rel3, (loc.mono (x1.le.trans x2.le)).mono x3.le, (p2.on x3).bind.imp fun z μ4 m4 H4 x4 rel4 p4 u ru => ?_⟩
      exact ⟨m4, μ4, y, z, rel4, (rw.mono x3.le).mono x4.le, ru, p4.still (cmpR_calm op' y z μ4)⟩
theorem e_and {a b : Expr} {rest : List Expr} {i j : E} {pos : Pos} (ha : PE X a (tE C X W i)) (hb : PE X (.BoolOp .And (b :: rest) pos) (tE C X W j)) : PE X (.BoolOp .And (a :: b :: rest) pos) (tE C X W (.and i j)) := by
  refine imE (pe_andT ha hb) fun σ H Q q => ?_
  obtain ⟨m, ρ, μ, rel, loc, p⟩ := q
  simp only [evalE] at p
  refine ⟨m, ρ, μ, rel, loc, p.bind.imp fun x μ1 m1 H1 x1 rel1 p1 v rv => ?_⟩
  cases e : truth μ1 x with
  | none => rw [e] at p1; exact p1.elim
  | some t =>
    rw [e] at p1
    refine ⟨t, tru_of rel1 rv e, ?_⟩
    cases t with
    | true => exact ⟨m1, ρ, μ1, rel1, loc.mono x1.le, p1⟩
    | false => exact PostG.give rel1 p1 rv
theorem e_or {a b : Expr} {rest : List Expr} {i j : E} {pos : Pos} (ha : PE X a (tE C X W i)) (hb : PE X (.BoolOp .Or (b :: rest) pos) (tE C X W j)) : PE X (.BoolOp .Or (a :: b :: rest) pos) (tE C X W (.or i j)) := by
  refine imE (pe_orT ha hb) fun σ H Q q => ?_
  obtain ⟨m, ρ, μ, rel, loc, p⟩ := q
  simp only [evalE] at p
  refine ⟨m, ρ, μ, rel, loc, p.bind.imp fun x μ1 m1 H1 x1 rel1 p1 v rv => ?_⟩
  cases e : truth μ1 x with
  | none => rw [e] at p1; exact p1.elim
  | some t =>
    rw [e] at p1
    refine ⟨t, tru_of rel1 rv e, ?_⟩
    cases t with
    | false => exact ⟨m1, ρ, μ1, rel1, loc.mono x1.le, p1⟩
    | true => exact PostG.give rel1 p1 rv
theorem e_ite {c a b : Expr} {i j k : E} {pos : Pos} (hc : PT X c (tT C X W i)) (ha : PE X a (tE C X W j)) (hb : PE X b (tE C X W k)) : PE X (.IfExp c a b pos) (tE C X W (.ite i j k)) := by
  refine imE (pe_ifExp hc ha hb) fun σ H Q q => ?_
  obtain ⟨m, ρ, μ, rel, loc, p⟩ := q
  simp only [evalE] at p
  refine ⟨m, ρ, μ, rel, loc, p.bind.imp fun x μ1 m1 H1 x1 rel1 p1 => ?_⟩
  cases e : truth μ1 x with
  | none => rw [e] at p1; exact p1.elim
  | some t =>
    rw [e] at p1
    refine ⟨t, rfl, ?_⟩
    cases t with
    | true => exact ⟨m1, ρ, μ1, rel1, loc.mono x1.le, p1⟩
    | false => exact ⟨m1, ρ, μ1, rel1, loc.mono x1.le, p1⟩
/-! ### tests -/
theorem t_val {a : Expr} {i : E} (ha : PE X a (tE C X W i)) (he : ∀ whole, isTrue a X.env whole = (do let v ← whole; standAt a.pos; holding [v] (truthy v))) : PT X a (tT C X W i) := by
  refine imT (pt_truth ha he) fun σ H Q q => ?_
  obtain ⟨m, ρ, μ, rel, loc, p⟩ := q
  exact ⟨m, ρ, μ, rel, loc, p.imp fun x μ1 m1 H1 x1 rel1 ⟨b, e, q⟩ v rv => ⟨b, tru_of rel1 rv e, q⟩⟩
theorem t_not {a : Expr} {i : E} {pos : Pos} (ha : PT X a (tT C X W i)) : PT X (.UnaryOp .Not a pos) (tT C X W (.not i)) := by
  refine imT (pt_not ha) fun σ H Q q => ?_
  obtain ⟨m, ρ, μ, rel, loc, p⟩ := q
  simp only [evalE] at p
  refine ⟨m, ρ, μ, rel, loc, p.bind.imp fun x μ1 m1 H1 x1 rel1 p1 => ?_⟩
  cases e : truth μ1 x with
  | none => rw [e] at p1; exact p1.elim
  | some t =>
    rw [e] at p1
    obtain ⟨b, e2, q⟩ := p1 m1 H1 (Ext.refl _ _) rel1
    cases e2
    exact ⟨t, rfl, q⟩
theorem t_cmp (hu : X.A.units + 64 < cLine) {op : Cmp} {a b : Expr} {i j : E} {pos : Pos} (ha : PE X a (tE C X W i)) (hb : PE X b (tE C X W j)) (hm : behindInMarks (copOf op) b = false) : PT X (.Compare a [copOf op] [b] pos) (tT C X W (.cmp op i j)) := by
  refine imT (pt_cmpR (op_cmp hu op) ha hb hm) fun σ H Q q => ?_
  obtain ⟨m, ρ, μ, rel, loc, p⟩ := q
  simp only [evalE] at p
  refine ⟨m, ρ, μ, rel, loc, p.bind.imp fun x μ1 m1 H1 x1 rel1 p1 v rv => ?_⟩
  refine ⟨m1, ρ, μ1, rel1, loc.mono x1.le, p1.bind.imp fun y μ2 m2 H2 x2 rel2 p2 w rw => ?_⟩
  unfold cmpR at p2
  cases e : cmpD op x y μ2 with
  | none => rw [e] at p2; exact p2.elim
  | some t =>
    rw [e] at p2
    refine r2_cmp rel2 (rv.mono x2.le) rw e fun m3 H3 x3 rel3 => ⟨t, rfl, ?_⟩
    obtain ⟨b, e2, q⟩ := p2 m3 H3 x3 rel3
    cases e2
    exact q
theorem t_chain (hu : X.A.units + 64 < cLine) {op op' : Cmp} {a b c : Expr} {i j k : E} {pos : Pos} (ha : PE X a (tE C X W i)) (hb : PE X b (tE C X W j)) (hc : PE X c (tE C X W k)) (hm : lastMarks [copOf op, copOf op'] [b, c] = false) :
    PT X (.Compare a [copOf op, copOf op'] [b, c] pos) (tT C X W (.chain op op' i j k)) := by
  refine imT (pt_chain (op_cmp hu op) (op_cmp hu op') ha hb hc hm) fun σ H Q q => ?_
  obtain ⟨m, ρ, μ, rel, loc, p⟩ := q
  simp only [evalE] at p
  refine ⟨m, ρ, μ, rel, loc, p.bind.imp fun x μ1 m1 H1 x1 rel1 p1 v rv => ?_⟩
  refine ⟨m1, ρ, μ1, rel1, loc.mono x1.le, p1.bind.imp fun y μ2 m2 H2 x2 rel2 p2 w rw => ?_⟩
  cases e : cmpD op x y μ2 with
  | none => rw [e] at p2; exact p2.elim
  | some t =>
    rw [e] at p2
    refine r2_cmp rel2 (rv.mono x2.le) rw e fun m3 H3 x3 rel3 => ⟨t, rfl, ?_⟩
    cases t with
    | false =>
      obtain ⟨b, e2, q⟩ := (p2.on x3) m3 H3 (Ext.refl _ _) rel3
      cases e2
      exact ⟨false, rfl, q⟩
    | true =>
      refine ⟨m3, ρ, μ2, rel3, (loc.mono (x1.le.trans x2.le)).mono x3.le, (p2.on x3).bind.imp fun z μ4 m4 H4 x4 rel4 p4 u ru => ?_⟩
      unfold cmpR at p4
      cases e4 : cmpD op' y z μ4 with
      | none => rw [e4] at p4; exact p4.elim
      | some t4 =>
        rw [e4] at p4
        refine r2_cmp rel4 ((rw.mono x3.le).mono x4.le) ru e4 fun m5 H5 x5 rel5 => ⟨t4, rfl, ?_⟩
        obtain ⟨b, e2, q⟩ := p4 m5 H5 x5 rel5
        cases e2
        exact q
theorem w_and {a b : Expr} {rest : List Expr} {i j : E} {pos : Pos} (ha : PT X a (tT C X W i)) (hb : PW X (.BoolOp .And (b :: rest) pos) (tT C X W j)) : PW X (.BoolOp .And (a :: b :: rest) pos) (tT C X W (.and i j)) := by
  have h := pw_and ha hb
  refine ⟨fun whole pins s σ H Q I q => h.run whole pins s σ H Q I ?_⟩
  obtain ⟨m, ρ, μ, rel, loc, p⟩ := q
  simp only [evalE] at p
  refine ⟨m, ρ, μ, rel, loc, p.bind.imp fun x μ1 m1 H1 x1 rel1 p1 => ?_⟩
  cases e : truth μ1 x with
  | none => rw [e] at p1; exact p1.elim
  | some t =>
    rw [e] at p1
    refine ⟨t, rfl, ?_⟩
    cases t with
    | true => exact ⟨m1, ρ, μ1, rel1, loc.mono x1.le, p1⟩
    | false =>
      obtain ⟨b, e2, q⟩ := p1 m1 H1 (Ext.refl _ _) rel1
      rw [e] at e2
      cases e2
      exact q
theorem w_or {a b : Expr} {rest : List Expr} {i j : E} {pos : Pos} (ha : PT X a (tT C X W i)) (hb : PW X (.BoolOp .Or (b :: rest) pos) (tT C X W j)) : PW X (.BoolOp .Or (a :: b :: rest) pos) (tT C X W (.or i j)) := by
  have h := pw_or ha hb
  refine ⟨fun whole pins s σ H Q I q => h.run whole pins s σ H Q I ?_⟩
  obtain ⟨m, ρ, μ, rel, loc, p⟩ := q
  simp only [evalE] at p
  refine ⟨m, ρ, μ, rel, loc, p.bind.imp fun x μ1 m1 H1 x1 rel1 p1 => ?_⟩
  cases e : truth μ1 x with
  | none => rw [e] at p1; exact p1.elim
  | some t =>
    rw [e] at p1
    refine ⟨t, rfl, ?_⟩
    cases t with
    | false => exact ⟨m1, ρ, μ1, rel1, loc.mono x1.le, p1⟩
    | true =>
      obtain ⟨b, e2, q⟩ := p1 m1 H1 (Ext.refl _ _) rel1
      rw [e] at e2
      cases e2
      exact q
end
end G
/-! The G machine over the hand layer: arguments, displays, subscripts. -/
set_option Elab.async false
set_option linter.all false
set_option maxRecDepth 100000
namespace G
open PySem PySem.Spec L2
section
variable {X : Cx} {T : Tab} {C : Ctx} {W : WX}
theorem star_one {e : Expr} {es : List Expr} {env : PySem.Env} (h : plainE e = true) : starEach (e :: es) env = (false, eval e env) :: starEach es env := by
  cases e <;> first | rfl | cases h
/-- all are plain -/
def plains (es : List Expr) : Bool := es.all plainE
theorem star_any {env : PySem.Env} {pos : Pos} : ∀ {es : List Expr}, plains es = true → (backTo pos (starEach es env)).any (·.1) = false
  | [], _ => rfl
  | e :: es, h => by
    simp only [plains, List.all_cons, Bool.and_eq_true] at h
    rw [star_one h.1]
    show (false || (backTo pos (starEach es env)).any (·.1)) = false
    rw [star_any h.2, Bool.or_self]
theorem star_all {env : PySem.Env} {pos : Pos} : ∀ {es : List Expr}, plains es = true → (backTo pos (starEach es env)).all (fun x => !x.1) = true
  | [], _ => rfl
  | e :: es, h => by
    simp only [plains, List.all_cons, Bool.and_eq_true] at h
    rw [star_one h.1]
    show (!false && (backTo pos (starEach es env)).all (fun x => !x.1)) = true
    rw [star_all h.2]
    rfl
/-- the compiled arguments are plain -/
theorem cEs_plain {r : Expr → Option E} : ∀ {es : List Expr} {is : Es}, cEs r es = some is → plains es = true
  | [], _, _ => rfl
  | e :: es, is, h => by
    unfold cEs at h
    split at h
    · next hp =>
      split at h
      · next i hi =>
        simp only [Option.map_eq_some_iff] at h
        obtain ⟨js, h1, _⟩ := h
        have q := cEs_plain h1
        simp only [plains] at q
        simp only [plains, List.all_cons, hp, q, Bool.and_self]
      · cases h
    · cases h
theorem a_nil : PA X [] (tEs C X W .nil) := by
  refine imA pa_nil fun σ H Q q => ?_
  obtain ⟨m, ρ, μ, rel, loc, p⟩ := q
  simp only [evalEs] at p
  exact p m H (Ext.refl _ _) rel [] .nil
theorem a_cons {e : Expr} {es : List Expr} {i : E} {is : Es} (h1 : PE X e (tE C X W i)) (h2 : PA X es (tEs C X W is)) (hp : plainE e = true) : PA X (e :: es) (tEs C X W (.cons i is)) := by
  refine imA (pa_cons h1 h2 (star_one hp)) fun σ H Q q => ?_
  obtain ⟨m, ρ, μ, rel, loc, p⟩ := q
  simp only [evalEs] at p
  refine ⟨m, ρ, μ, rel, loc, p.bind.imp fun x μ1 m1 H1 x1 rel1 p1 v rv => ?_⟩
  refine ⟨m1, ρ, μ1, rel1, loc.mono x1.le, p1.bind.imp fun xs μ2 m2 H2 x2 rel2 p2 vs rvs => ?_⟩
  exact p2 m2 H2 (Ext.refl _ _) rel2 _ (.cons (rv.mono x2.le) rvs)
theorem args_ok {r : Expr → Option E} (hr : ∀ e i, r e = some i → PE X e (tE C X W i)) : ∀ {es : List Expr} {is : Es}, cEs r es = some is → PA X es (tEs C X W is)
  | [], _, h => by
    cases h
    exact a_nil
  | e :: es, is, h => by
    unfold cEs at h
    split at h
    · next hp =>
      split at h
      · next i hi =>
        simp only [Option.map_eq_some_iff] at h
        obtain ⟨js, h1, rfl⟩ := h
        exact a_cons (hr _ _ hi) (args_ok hr h1) hp
      · cases h
    · cases h
/-! ### displays -/
theorem e_tup {es : List Expr} {is : Es} {k : Nat} {pos : Pos} (h : PA X es (tEs C X W is)) : PE X (.Tuple es k pos) (tE C X W (.tup is)) := by
  refine imE (pe_tup h) fun σ H Q q => ?_
  obtain ⟨m, ρ, μ, rel, loc, p⟩ := q
  simp only [evalE] at p
  refine ⟨m, ρ, μ, rel, loc, p.bind.imp fun xs μ1 m1 H1 x1 rel1 p1 vs rvs => ?_⟩
  split at p1
  · next hl =>
    refine ⟨by rw [rvs.len, ← line_eq]; exact hl, ?_⟩
    obtain ⟨m2, rel2, x2, r2⟩ := rel1.frzIf (b := C.fr) rvs
    exact PostG.newT rel2 (p1.on x2) r2
  · exact p1.elim
theorem e_lst {es : List Expr} {is : Es} {pos : Pos} (h : PA X es (tEs C X W is)) : PE X (.List es pos) (tE C X W (.lst is)) := by
  refine imE (pe_lst h) fun σ H Q q => ?_
  obtain ⟨m, ρ, μ, rel, loc, p⟩ := q
  simp only [evalE] at p
  refine ⟨m, ρ, μ, rel, loc, p.bind.imp fun xs μ1 m1 H1 x1 rel1 p1 vs rvs => ?_⟩
  split at p1
  · next hl =>
    refine ⟨by rw [rvs.len, ← line_eq]; exact hl, ?_⟩
    obtain ⟨m2, rel2, x2, r2⟩ := rel1.frzIf (b := C.fr) rvs
    exact PostG.newL rel2 (p1.on x2) r2
  · exact p1.elim
/-! ### subscripts -/
theorem plainIx {i : Expr} (h : plainE i = true) : PlainIx i := by
  intro o j
  cases i <;> first | rfl | cases h
theorem e_idx (hu : X.A.units + 64 < cLine) {a i : Expr} {j k : E} {pos : Pos} (ha : PE X a (tE C X W j)) (hi : PE X i (tE C X W k)) (hp : plainE i = true) : PE X (.Subscript a i pos) (tE C X W (.idx j k)) := by
  refine imE (pe_ix (ix_item hu) ha hi (plainIx hp)) fun σ H Q q => ?_
  obtain ⟨m, ρ, μ, rel, loc, p⟩ := q
  simp only [evalE] at p
  refine ⟨m, ρ, μ, rel, loc, p.bind.imp fun x μ1 m1 H1 x1 rel1 p1 v rv => ?_⟩
  refine ⟨m1, ρ, μ1, rel1, loc.mono x1.le, p1.bind.imp fun y μ2 m2 H2 x2 rel2 p2 w rw => ?_⟩
  exact ⟨m2, μ2, x, y, rel2, rv.mono x2.le, rw, p2.still (item_calm x y μ2)⟩
/-- a slice's part -/
def tO (C : Ctx) (X : Cx) (W : WX) (i : O) : TO := fun σ H Q => ∃ m ρ μ, RelM X m H μ ∧ Loc X m σ ρ ∧ Post X (xw X W σ) m H (evalO C i ρ μ) fun d _ m' H' => ∃ l, optInt d = some l ∧ Q l H'
theorem imO {e : Option Expr} {t t' : TO} (h : PO X e t) (i : ∀ σ H Q, t' σ H Q → t σ H Q) : PO X e t' := ⟨fun pins s σ H Q I q => h.run pins s σ H Q I (i σ H Q q)⟩
theorem o_ok {r : Expr → Option E} (hr : ∀ e i, r e = some i → PE X e (tE C X W i)) {e : Option Expr} {i : O} (h : cO r e = some i) : PO X e (tO C X W i) := by
  cases e with
  | none =>
    cases h
    refine imO po_none fun σ H Q q => ?_
    obtain ⟨m, ρ, μ, rel, loc, p⟩ := q
    simp only [evalO] at p
    obtain ⟨l, e, q⟩ := p m H (Ext.refl _ _) rel
    cases e
    exact q
  | some e =>
    simp only [cO, Option.map_eq_some_iff] at h
    obtain ⟨j, h1, rfl⟩ := h
    refine imO (po_some (hr _ _ h1)) fun σ H Q q => ?_
    obtain ⟨m, ρ, μ, rel, loc, p⟩ := q
    simp only [evalO] at p
    refine ⟨m, ρ, μ, rel, loc, p.bind.imp fun x μ1 m1 H1 x1 rel1 p1 v rv => ?_⟩
    obtain ⟨l, e, q⟩ := p1 m1 H1 (Ext.refl _ _) rel1
    cases x with
    | int n =>
      cases e
      cases rv
      exact ⟨n, rfl, q⟩
    | _ => cases e
theorem e_slc {a : Expr} {lo hi : Option Expr} {j : E} {l h : O} {pos p2 : Pos} (ha : PE X a (tE C X W j)) (hl : PO X lo (tO C X W l)) (hh : PO X hi (tO C X W h)) : PE X (.Subscript a (.Slice lo hi none p2) pos) (tE C X W (.slc j l h)) := by
  refine imE (pe_slice sl_slice ha hl hh) fun σ H Q q => ?_
  obtain ⟨m, ρ, μ, rel, loc, p⟩ := q
  simp only [evalE] at p
  refine ⟨m, ρ, μ, rel, loc, p.bind.imp fun x μ1 m1 H1 x1 rel1 p1 v rv => ?_⟩
  refine ⟨m1, ρ, μ1, rel1, loc.mono x1.le, p1.bind.imp fun l μ2 m2 H2 x2 rel2 p2 => ?_⟩
  cases el : optInt l with
  | none => rw [el] at p2; exact p2.elim
  | some l' =>
    rw [el] at p2
    refine ⟨l', rfl, m2, ρ, μ2, rel2, loc.mono (x1.le.trans x2.le), p2.bind.imp fun d μ3 m3 H3 x3 rel3 p3 => ?_⟩
    cases eh : optInt d with
    | none => rw [eh] at p3; exact p3.elim
    | some h' =>
      rw [eh] at p3
      exact ⟨h', rfl, m3, μ3, x, rel3, (rv.mono x2.le).mono x3.le, p3.still (slice_calm x l' h' μ3)⟩
end
end G
/-! The G machine over the hand layer: built-in functions, isinstance. -/
set_option Elab.async false
set_option linter.all false
set_option maxRecDepth 100000
namespace G
open PySem PySem.Spec L2
section
variable {X : Cx} {T : Tab} {C : Ctx} {W : WX}
theorem of_lookup {α β : Type} [BEq α] [LawfulBEq α] {x : α} {b : β} : ∀ {l : List (α × β)}, l.lookup x = some b → (x, b) ∈ l
  | [], h => by simp at h
  | (y, c) :: l, h => by
    rw [List.lookup_cons] at h
    split at h
    · next e =>
      cases h
      rw [eq_of_beq e]
      exact List.mem_cons_self
    · exact List.mem_cons_of_mem _ (of_lookup h)
/-! ### calls of built-in functions -/
theorem e_bltB {id : String} {x : PySem.Str} {f : B} {es : List Expr} {is : Es} {e : Expr} {p pos : Pos} (hc : CallR X (.builtin id) (rN X (blt f))) (hg : Gl X x) (hm : X.mg x = none) (hv : bootBuiltins x = some (.builtin id)) (ho : odd x = false) (ha : PA X (e :: es) (tEs C X W is)) (hp : plains (e :: es) = true) :
    PE X (.Call (.Name x p) (e :: es) [] pos) (tE C X W (.blt f is)) := by
  have hp2 := hp
  simp only [plains, List.all_cons, Bool.and_eq_true] at hp2
  refine imE (pe_callB hc hg hm hv ha (odd_ok ho).2.2 (odd_ok ho).1 (star_one hp2.1) (star_any hp2.2)) fun σ H Q q => ?_
  obtain ⟨m, ρ, μ, rel, loc, p⟩ := q
  simp only [evalE] at p
  exact ⟨m, ρ, μ, rel, loc, p.bind.imp fun xs μ1 m1 H1 x1 rel1 p1 vs rvs => ⟨m1, μ1, xs, rel1, rvs, p1.still (blt_calm _ _ _)⟩⟩
theorem e_bltT {id : String} {x : PySem.Str} {f : B} {es : List Expr} {is : Es} {e : Expr} {p pos : Pos} (hc : CallR X (.type id) (rN X (blt f))) (hg : Gl X x) (hm : X.mg x = none) (hv : bootBuiltins x = some (.type id)) (ho : odd x = false) (ha : PA X (e :: es) (tEs C X W is)) (hp : plains (e :: es) = true) :
    PE X (.Call (.Name x p) (e :: es) [] pos) (tE C X W (.blt f is)) := by
  have hp2 := hp
  simp only [plains, List.all_cons, Bool.and_eq_true] at hp2
  refine imE (pe_callTy hc hg hm hv ha (odd_ok ho).2.2 (odd_ok ho).1 (star_one hp2.1) (star_any hp2.2)) fun σ H Q q => ?_
  obtain ⟨m, ρ, μ, rel, loc, p⟩ := q
  simp only [evalE] at p
  exact ⟨m, ρ, μ, rel, loc, p.bind.imp fun xs μ1 m1 H1 x1 rel1 p1 vs rvs => ⟨m1, μ1, xs, rel1, rvs, p1.still (blt_calm _ _ _)⟩⟩
theorem blt_ok (ok : Ok T C X W) {x : PySem.Str} {f : B} {es : List Expr} {is : Es} {e : Expr} {p pos : Pos} (h : bTab.lookup x = some f) (hg : Gl X x) (ho : odd x = false) (ha : PA X (e :: es) (tEs C X W is)) (hp : plains (e :: es) = true) :
    PE X (.Call (.Name x p) (e :: es) [] pos) (tE C X W (.blt f is)) := by
  have hm := of_lookup h
  unfold bTab at hm
  simp only [List.mem_cons, Prod.mk.injEq, List.not_mem_nil, or_false] at hm
  rcases hm with ⟨rfl, rfl⟩ | ⟨rfl, rfl⟩ | ⟨rfl, rfl⟩ | ⟨rfl, rfl⟩ | ⟨rfl, rfl⟩ | ⟨rfl, rfl⟩ | ⟨rfl, rfl⟩ | ⟨rfl, rfl⟩ | ⟨rfl, rfl⟩ | ⟨rfl, rfl⟩ | ⟨rfl, rfl⟩ | ⟨rfl, rfl⟩ | ⟨rfl, rfl⟩ | ⟨rfl, rfl⟩ | ⟨rfl, rfl⟩
  · exact e_bltB c_len hg ok.lib.len PySem.boot_len ho ha hp
  · exact e_bltT c_int hg ok.lib.int PyProof.Rows.boot_int ho ha hp
  · exact e_bltT c_str hg ok.lib.str PyProof.Rows.boot_str ho ha hp
  · exact e_bltT c_bool hg ok.lib.bool PyProof.Rows.boot_bool ho ha hp
  · exact e_bltB c_abs hg ok.lib.abs PyProof.Rows.boot_abs ho ha hp
  · exact e_bltT (c_list ok.calm) hg ok.lib.list PyProof.Rows.boot_list ho ha hp
  · exact e_bltT c_tuple hg ok.lib.tuple PyProof.Rows.boot_tuple ho ha hp
  · exact e_bltT c_dict hg ok.lib.dict PyProof.Rows.boot_dict ho ha hp
  · exact e_bltB (c_sorted ok.unit) hg ok.lib.sorted PyProof.Rows.boot_sorted ho ha hp
  · exact e_bltB (c_repr ok.gd ok.unit) hg ok.lib.repr PyProof.Rows.boot_repr ho ha hp
  · exact e_bltB (c_sum ok.calm) hg ok.lib.sum PyProof.Rows.boot_sum ho ha hp
  · exact e_bltB (c_min ok.calm) hg ok.lib.min PyProof.Rows.boot_min ho ha hp
  · exact e_bltB (c_max ok.calm) hg ok.lib.max PyProof.Rows.boot_max ho ha hp
  · exact e_bltB (c_any ok.calm) hg ok.lib.any PyProof.Rows.boot_any ho ha hp
  · exact e_bltB (c_all ok.calm) hg ok.lib.all PyProof.Rows.boot_all ho ha hp
/-! ### isinstance -/
def tyStr : Ty → String
  | .int => "int"
  | .bool => "bool"
  | .str => "str"
  | .list => "list"
  | .tuple => "tuple"
theorem isTy_ok {m : Mp} {H : Hp} {μ : Mem} {v : V} {d : D} {t : Ty} {b : Bool} (rel : RelM X m H μ) (r : Rp X.K m v d) (e : isTy μ d t = some b) : ∃ n, TyX X.K H v (.type n) ∧ kitB n (tyStr t) = some b := by
  cases r with
  | non => exact ⟨"NoneType", .base .non, by cases t <;> cases e <;> decide +kernel⟩
  | bl c => exact ⟨"bool", .base (.bl c), by cases t <;> cases e <;> decide +kernel⟩
  | int c => exact ⟨"int", .base (.int c), by cases t <;> cases e <;> decide +kernel⟩
  | str c h => exact ⟨"str", .base (.str _), by cases t <;> cases e <;> decide +kernel⟩
  | @tup a xs ds h1 h2 =>
    refine ⟨"tuple", ?_, by cases t <;> cases e <;> decide +kernel⟩
    have h := rel.sqT h1
    rcases h with h | h
    · rcases h with h | ⟨o, h⟩
      · exact .base (.tup h)
      · exact .fTuple h
    · obtain ⟨o, its, n, h, c, _⟩ := h
      exact .kTuple h c
  | @lst a xs ds h1 h2 =>
    refine ⟨"list", ?_, by cases t <;> cases e <;> decide +kernel⟩
    rcases rel.sqX h1 with (h | ⟨o, h⟩) | ⟨its, n, h, _⟩
    · exact .base (.lst h)
    · exact .base (.frz h)
    · exact .kList h rfl
  | @ref k a hk =>
    cases ek : μ[k]? with
    | none => simp only [isTy, ek] at e; cases t <;> simp only [isTy, ek] at e <;> cases e
    | some c =>
      obtain ⟨b', hb, cc⟩ := rel.cell k c ek
      rw [hk] at hb
      cases hb
      cases c with
      | lst ds =>
        obtain ⟨xs, h1, _, _⟩ := cc
        exact ⟨"list", .base (.lst h1), by cases t <;> simp only [isTy, ek] at e <;> cases e <;> decide +kernel⟩
      | fz ds =>
        obtain ⟨xs, h1, _⟩ := cc
        exact ⟨"list", .base (.lst (rel.fzH _ _ h1)), by cases t <;> simp only [isTy, ek] at e <;> cases e <;> decide +kernel⟩
      | dict _ => cases t <;> simp only [isTy, ek] at e <;> cases e
      | obj _ _ => cases t <;> simp only [isTy, ek] at e <;> cases e
theorem ty_name (ok : Ok T C X W) {e : Expr} {t : Ty} (h : tyName X.env.scope e = some t) : PE X e (tC (.ty (tyStr t))) ∧ plainE e = true := by
  cases e with
  | Name x pos =>
    simp only [tyName] at h
    split at h
    · next hg =>
      have hg := isGl_ok hg
      have hm := of_lookup h
      unfold tyTab at hm
      simp only [List.mem_cons, Prod.mk.injEq, List.not_mem_nil, or_false] at hm
      rcases hm with ⟨rfl, rfl⟩ | ⟨rfl, rfl⟩ | ⟨rfl, rfl⟩ | ⟨rfl, rfl⟩ | ⟨rfl, rfl⟩
      · exact ⟨pe_bltn hg ok.lib.int PyProof.Rows.boot_int rfl, rfl⟩
      · exact ⟨pe_bltn hg ok.lib.bool PyProof.Rows.boot_bool rfl, rfl⟩
      · exact ⟨pe_bltn hg ok.lib.str PyProof.Rows.boot_str rfl, rfl⟩
      · exact ⟨pe_bltn hg ok.lib.list PyProof.Rows.boot_list rfl, rfl⟩
      · exact ⟨pe_bltn hg ok.lib.tuple PyProof.Rows.boot_tuple rfl, rfl⟩
    · cases h
  | _ => cases h
theorem isi_ok (ok : Ok T C X W) {a e : Expr} {i : E} {t : Ty} {p pos : Pos} (hg : Gl X "isinstance") (ha : PE X a (tE C X W i)) (hp : plainE a = true) (h : tyName X.env.scope e = some t) : PE X (.Call (.Name "isinstance" p) [a, e] [] pos) (tE C X W (.isi i [t])) := by
  obtain ⟨he, hp2⟩ := ty_name ok h
  refine imE (pe_callB call_isi hg ok.lib.isinstance PyProof.Rows.boot_isinstance (pa_cons ha (pa_cons he pa_nil (star_one hp2)) (star_one hp)) (by decide) (by decide) (star_one hp) (star_any (es := [e]) (by simp [plains, hp2]))) fun σ H Q q => ?_
  obtain ⟨m, ρ, μ, rel, loc, pp⟩ := q
  simp only [evalE] at pp
  refine ⟨m, ρ, μ, rel, loc, pp.bind.imp fun x μ1 m1 H1 x1 rel1 p1 v rv => ?_⟩
  simp only [isTys] at p1
  cases ei : isTy μ1 x t with
  | none => rw [ei] at p1; exact p1.elim
  | some b =>
    rw [ei] at p1
    obtain ⟨n, h1, h2⟩ := isTy_ok rel1 rv ei
    refine ⟨v, .ty (tyStr t), .type n, .type (tyStr t), b, rfl, .ty _, h1, kit_ty h2, ?_⟩
    cases b <;> exact PostG.give rel1 p1 (.bl _)
end
end G
/-! The G machine over the hand layer: methods of built-in types, dicts. -/
set_option Elab.async false
set_option linter.all false
set_option maxRecDepth 100000
namespace G
open PySem PySem.Spec L2
section
variable {X : Cx} {T : Tab} {C : Ctx} {W : WX}
/-- a method of values -/
def rM (X : Cx) (fr : Bool) (f : M) : V → List V → Hp → VK → Prop := fun x xs H Q => ∃ m μ d as, RelM X m H μ ∧ Rp X.K m x d ∧ Rps X.K m xs as ∧ Post X (fun _ _ _ _ => False) m H (bmeth fr d f as μ) fun d _ m' H' => ∀ v, Rp X.K m' v d → Q v H'
theorem RelG.freeze {m : Mp} {H : Hp} {μ : Mem} {v : V} {d : D} (fr : Bool) (rel : RelM X m H μ) (r : Rp X.K m v d) : ∃ m', RelM X m' H (if fr then G.frz1 d μ else (d, μ)).2 ∧ Ext m H m' H ∧ Rp X.K m' v (if fr then G.frz1 d μ else (d, μ)).1 := by
  cases fr with
  | false => exact ⟨m, rel, Ext.refl _ _, r⟩
  | true => exact rel.frz1 r
theorem m_append {fr : Bool} : MtR X "list.append" (rM X fr .append) := by
  intro pins s σ H x xs v us Q I rx rxs h
  obtain ⟨m, μ, d, as, rel, rd, ra, post⟩ := h
  cases ra with
  | nil => exact post.elim
  | cons r1 r2 =>
    cases r2 with
    | cons _ _ => exact post.elim
    | nil =>
      rename_i y a
      have post : Post X (fun _ _ _ _ => False) m H (mAppend fr d a μ) fun d _ m' H' => ∀ v, Rp X.K m' v d → Q v H' := post
      unfold mAppend at post
      cases d with
      | ref k =>
        obtain ⟨m1, rel1, x1, ry⟩ := rel.freeze fr r1
        simp only [] at post
        split at post
        · next ds e =>
          split at post
          · next hl =>
            obtain ⟨l, rfl, hk, xs, h1, h2, h3⟩ := rel1.at_ (rd.mono x1.le) e
            obtain ⟨rel2, x2⟩ := rel1.wr (o := .lst (xs ++ [y])) hk h2 (c := .lst (ds ++ [(if fr then frz1 a μ else (a, μ)).1])) ⟨_, upd_same, h2, h3.app (.cons ry .nil)⟩
            exact mt_append pins s σ H _ _ v us Q I rx rxs ⟨l, xs, y, rfl, rfl, h1, by rw [h3.len, ← line_eq]; exact hl, (post.on x1) m1 _ x2 rel2 _ .non⟩
          · exact post.elim
        · exact post.elim
      | _ => exact post.elim
theorem m_pop {fr : Bool} : MtR X "list.pop" (rM X fr .pop) := by
  intro pins s σ H x xs v us Q I rx rxs h
  obtain ⟨m, μ, d, as, rel, rd, ra, post⟩ := h
  cases ra with
  | nil =>
    have post : Post X (fun _ _ _ _ => False) m H (mPop d μ) fun d _ m' H' => ∀ v, Rp X.K m' v d → Q v H' := post
    unfold mPop at post
    cases d with
    | ref k =>
      simp only [] at post
      split at post
      · next ds e =>
        split at post
        · next d e2 =>
          obtain ⟨l, rfl, hk, xs, h1, h2, h3⟩ := rel.at_ rd e
          obtain ⟨rel2, x2⟩ := rel.wr (o := .lst xs.dropLast) hk h2 (c := .lst ds.dropLast) ⟨_, upd_same, h2, h3.dropLast⟩
          obtain ⟨y, hy, ry⟩ := h3.get e2
          exact mt_pop pins s σ H _ _ v us Q I rx rxs ⟨l, xs, y, rfl, rfl, h1, by rw [h3.len]; exact hy, post m _ x2 rel2 _ ry⟩
        · exact post.elim
      · exact post.elim
    | _ => exact post.elim
  | cons r1 r2 =>
    cases r2 with
    | cons _ _ => exact post.elim
    | nil =>
      rename_i y a
      have post : Post X (fun _ _ _ _ => False) m H (mPopAt d a μ) fun d _ m' H' => ∀ v, Rp X.K m' v d → Q v H' := post
      unfold mPopAt at post
      cases d with
      | ref k =>
        simp only [] at post
        split at post
        · next ds e =>
          cases a with
          | int i =>
            simp only [] at post
            split at post
            · next n e1 =>
              split at post
              · next d e2 =>
                obtain ⟨l, rfl, hk, xs, h1, h2, h3⟩ := rel.at_ rd e
                obtain ⟨rel2, x2⟩ := rel.wr (o := .lst (xs.eraseIdx n)) hk h2 (c := .lst (ds.eraseIdx n)) ⟨_, upd_same, h2, h3.erase n⟩
                obtain ⟨w, hy, ry⟩ := h3.get e2
                cases r1
                rw [← h3.len, place_ix] at e1
                obtain ⟨q1, q2, q3, q4⟩ := ixN_seq e1
                obtain ⟨z, _⟩ := I.lstM h1
                have hz := line63
                exact mt_popAt pins s σ H _ _ v us Q I rx rxs ⟨l, xs, i, n, w, rfl, rfl, h1, by omega, by omega, q1, hy, post m _ x2 rel2 _ ry⟩
              · exact post.elim
            · exact post.elim
          | _ => exact post.elim
        · exact post.elim
      | _ => exact post.elim
theorem m_clear {fr : Bool} : MtR X "list.clear" (rM X fr .clear) := by
  intro pins s σ H x xs v us Q I rx rxs h
  obtain ⟨m, μ, d, as, rel, rd, ra, post⟩ := h
  cases ra with
  | nil =>
    have post : Post X (fun _ _ _ _ => False) m H (mClear d μ) fun d _ m' H' => ∀ v, Rp X.K m' v d → Q v H' := post
    unfold mClear at post
    cases d with
    | ref k =>
      simp only [] at post
      split at post
      · next ds e =>
        obtain ⟨l, rfl, hk, xs, h1, h2, h3⟩ := rel.at_ rd e
        obtain ⟨rel2, x2⟩ := rel.wr (o := .lst []) hk h2 (c := .lst []) ⟨_, upd_same, h2, .nil⟩
        exact mt_clear pins s σ H _ _ v us Q I rx rxs ⟨l, xs, rfl, rfl, h1, post m _ x2 rel2 _ .non⟩
      · exact post.elim
    | _ => exact post.elim
  | cons _ _ => exact post.elim
theorem findIx_ok {m : Mp} {a : D} {v : V} (r : Rp X.K m v a) (ha : flat a = true) : ∀ {xs : List V} {ds : List D} {n j : Nat}, Rps X.K m xs ds → ds.all flat = true → findIx a ds n = some j →
    ∃ i z, j = n + i ∧ xs[i]? = some z ∧ eqV z v = true ∧ ∀ (k : Nat) (z' : V), k < i → xs[k]? = some z' → eqV z' v = false
  | _, _, _, _, .nil, _, h => by cases h
  | x :: xs, d :: ds, n, j, .cons r1 r2, hf, h => by
    simp only [List.all_cons, Bool.and_eq_true] at hf
    have q := eqV_eqv r1 r hf.1 ha
    unfold findIx at h
    cases e : d.eqv a with
    | true =>
      simp only [e, if_true] at h
      cases h
      exact ⟨0, x, rfl, rfl, by rw [q, e], fun k z' hk _ => absurd hk (Nat.not_lt_zero k)⟩
    | false =>
      simp only [e] at h
      obtain ⟨i, z, h1, h2, h3, h4⟩ := findIx_ok r ha r2 hf.2 h
      refine ⟨i + 1, z, by omega, by simpa using h2, h3, fun k z' hk hz => ?_⟩
      cases k with
      | zero =>
        simp at hz
        subst hz
        rw [q, e]
      | succ k => exact h4 k z' (by omega) (by simpa using hz)
theorem m_index {fr : Bool} : MtR X "list.index" (rM X fr .lindex) := by
  intro pins s σ H x xs v us Q I rx rxs h
  obtain ⟨m, μ, d, as, rel, rd, ra, post⟩ := h
  cases ra with
  | nil => exact post.elim
  | cons r1 r2 =>
    cases r2 with
    | cons _ _ => exact post.elim
    | nil =>
      rename_i y a
      have post : Post X (fun _ _ _ _ => False) m H (mIndex d a μ) fun d _ m' H' => ∀ v, Rp X.K m' v d → Q v H' := post
      unfold mIndex at post
      cases e : getL μ d with
      | none => rw [e] at post; exact post.elim
      | some ds =>
        simp only [e] at post
        by_cases hf : (flat a && ds.all flat) = true
        · simp only [hf, if_true] at post
          rw [Bool.and_eq_true] at hf
          cases e2 : findIx a ds 0 with
          | none => rw [e2] at post; exact post.elim
          | some j =>
            rw [e2] at post
            obtain ⟨l, zs, rfl, h1, h3⟩ := rel.getL rd e
            obtain ⟨i, z, q1, q2, q3, q4⟩ := findIx_ok r1 hf.1 h3 hf.2 e2
            have q1 : j = i := by omega
            subst q1
            exact mt_index pins s σ H _ _ v us Q I rx rxs ⟨l, zs, y, j, z, rfl, rfl, h1.l, flat_V r1 hf.1, flats_V h3 hf.2, q2, q3, q4, PostG.give rel post (.int _)⟩
        · simp only [hf] at post
          exact post.elim
theorem m_get {fr : Bool} (hu : X.A.units + 64 < cLine) : MtR X "dict.get" (rM X fr .get) := by
  intro pins s σ H x xs v us Q I rx rxs h
  obtain ⟨m, μ, d, as, rel, rd, ra, post⟩ := h
  cases ra with
  | nil => exact post.elim
  | cons r1 r2 =>
    cases r2 with
    | nil => exact post.elim
    | cons r2 r3 =>
      cases r3 with
      | cons _ _ => exact post.elim
      | nil =>
        rename_i y a z b
        have post : Post X (fun _ _ _ _ => False) m H (mGet d a b μ) fun d _ m' H' => ∀ v, Rp X.K m' v d → Q v H' := post
        unfold mGet at post
        cases d with
        | ref k =>
          simp only [] at post
          split at post
          · next kvs e =>
            split at post
            · next q e2 =>
              obtain ⟨l, rfl, hk, ys, h1, h2, h3⟩ := rel.at_ rd e
              cases rx
              obtain ⟨u1, u2, rfl, ru1, ru2⟩ := rxs.two
              have hy := keyOf_V r1 e2
              subst hy
              have hv := kGet_valV q h3
              refine d_get2 (by omega) I (.inl ⟨ys, kk q, .inl h1, rfl, rfl⟩) ru1 ru2 fun w' s' I' rw' => ⟨_, H, I', rw', ?_⟩
              cases e3 : kGet q kvs with
              | none =>
                rw [e3] at hv post
                rw [hv]
                exact PostG.give rel post r2
              | some d =>
                rw [e3] at hv post
                obtain ⟨w, hw, rw1⟩ := hv
                rw [hw]
                exact PostG.give rel post rw1
            · exact post.elim
          · exact post.elim
        | _ => exact post.elim
theorem glue_fold (a : Tx) : ∀ (ts : List Tx) (acc : Tx), (ts.map cs).foldl (fun (z : Array Nat) (p : PySem.Str) => z ++ (cs a).cps ++ p.cps) (cs acc).cps = (cs (acc ++ (ts.map fun t => a ++ t).flatten)).cps
  | [], acc => by simp
  | t :: ts, acc => by
    rw [List.map_cons, List.foldl_cons]
    have e : (cs acc).cps ++ (cs a).cps ++ (cs t).cps = (cs (acc ++ (a ++ t))).cps := by simp [cs]
    rw [e, glue_fold a ts]
    simp
theorem joinT_flat (a : Tx) : ∀ (x : Tx) (ts : List Tx), joinT a (x :: ts) = x ++ (ts.map fun t => a ++ t).flatten
  | x, [] => by simp [joinT]
  | x, y :: ts => by
    simp only [joinT]
    rw [joinT_flat a y ts]
    simp
theorem flat_len (a : Tx) : ∀ ts : List Tx, ((ts.map fun t => a ++ t).flatten).length = (ts.map List.length).sum + ts.length * a.length
  | [] => by simp
  | t :: ts => by
    rw [List.map_cons, List.flatten_cons, List.length_append, flat_len a ts, List.map_cons, List.sum_cons, List.length_append, List.length_cons, Nat.add_mul]
    omega
theorem joinT_len (a : Tx) (ts : List Tx) : (joinT a ts).length ≤ (ts.map List.length).sum + ts.length * a.length := by
  cases ts with
  | nil => exact Nat.zero_le _
  | cons x ts =>
    rw [joinT_flat, List.length_append, flat_len, List.map_cons, List.sum_cons, List.length_cons, Nat.add_mul]
    omega
theorem join_cs (a : Tx) (ts : List Tx) : Txt.join (cs a) (ts.map cs) = cs (joinT a ts) := by
  cases ts with
  | nil => rfl
  | cons x ts =>
    show (⟨((((x :: ts).map cs).drop 1).foldl (fun acc p => acc ++ (cs a).cps ++ p.cps) (((x :: ts).map cs).headD Str.empty).cps)⟩ : PySem.Str) = _
    have e := glue_fold a ts x
    simp only [List.map_cons, List.drop_succ_cons, List.drop_zero, List.headD_cons]
    rw [e, joinT_flat]
theorem m_join {fr : Bool} : MtR X "str.join" (rM X fr .join) := by
  intro pins s σ H x xs v us Q I rx rxs h
  obtain ⟨m, μ, d, as, rel, rd, ra, post⟩ := h
  cases ra with
  | nil => exact post.elim
  | cons r1 r2 =>
    cases r2 with
    | cons _ _ => exact post.elim
    | nil =>
      rename_i y a
      have post : Post X (fun _ _ _ _ => False) m H (mJoin d a μ) fun d _ m' H' => ∀ v, Rp X.K m' v d → Q v H' := post
      unfold mJoin at post
      cases d with
      | str t =>
        simp only [] at post
        cases e : getS μ a with
        | none => rw [e] at post; exact post.elim
        | some ds =>
          simp only [e] at post
          cases e2 : textsOf ds with
          | none => rw [e2] at post; exact post.elim
          | some ts =>
            simp only [e2] at post
            split at post
            · next hl =>
              obtain ⟨l, zs, rfl, h1, h3⟩ := rel.getS r1 e
              have hz := h3.texts e2
              subst hz
              cases rd
              have hsum : ((ts.map cs).map (·.length)).sum + (ts.map cs).length * (cs t).length ≤ 16777216 := by
                rw [List.map_map, List.length_map, cs_len]
                have e : (PySem.Str.length ∘ cs) = (List.length : Tx → Nat) := funext fun x => cs_len x
                rw [e]
                exact hl
              have hlen : (joinT t ts).length ≤ line := by
                exact Nat.le_trans (joinT_len t ts) hl
              refine mt_join pins s σ H _ _ v us Q I rx rxs ⟨cs t, l, ts.map cs, rfl, rfl, ?_, hsum, ?_⟩
              · rw [List.map_map]
                exact h1
              · rw [join_cs]
                exact PostG.give rel post (.str _ hlen)
            · exact post.elim
      | _ => exact post.elim
theorem e_bm1 {C : Ctx} {T id : String} {f : M} {name : PySem.Str} {o e : Expr} {es : List Expr} {i : E} {is : Es} {apos cpos : Pos} (pa : PlainAttrs T) (slot : Slot T name id) (hty : typeOf (.builtin id) = pure (.type "method_descriptor")) (hm : MtR X id (rM X C.fr f))
    (hr : ∀ m H μ v d, RelM X m H μ → Rp X.K m v d → recv f μ d = true → tyV X.K T v H) (ho : PE X o (tE C X W i)) (ha : PA X (e :: es) (tEs C X W is)) (hb : attributeBase o name X.env (eval o X.env) = eval o X.env) (hp : plains (e :: es) = true) (h30 : (e :: es).length < 30) (hl : (apos.endLine == cpos.line) = true) :
    PE X (.Call (.Attribute o name apos) (e :: es) [] cpos) (tE C X W (.bm i f is)) := by
  have hp2 := hp
  simp only [plains, List.all_cons, Bool.and_eq_true] at hp2
  refine imE (pe_bm pa slot hty hm ho ha hb ?_ hl (star_one hp2.1) (star_any hp2.2)) fun σ H Q q => ?_
  · have e0 : backToKw cpos (keywordEach [] X.env) = [] := rfl
    rw [star_all hp, e0]
    simpa using h30
  · obtain ⟨m, ρ, μ, rel, loc, p⟩ := q
    simp only [evalE] at p
    refine ⟨m, ρ, μ, rel, loc, p.bind.imp fun x μ1 m1 H1 x1 rel1 p1 v rv => ?_⟩
    split at p1
    · next hrv =>
      refine ⟨hr _ _ _ _ _ rel1 rv hrv, m1, ρ, μ1, rel1, loc.mono x1.le, p1.bind.imp fun xs μ2 m2 H2 x2 rel2 p2 vs rvs => ?_⟩
      exact ⟨m2, μ2, x, xs, rel2, rv.mono x2.le, rvs, p2.still (bmeth_calm _ _ _ _ _)⟩
    · exact p1.elim
theorem e_bm0 {C : Ctx} {T id : String} {f : M} {name : PySem.Str} {o : Expr} {i : E} {apos cpos : Pos} (pa : PlainAttrs T) (slot : Slot T name id) (hty : typeOf (.builtin id) = pure (.type "method_descriptor")) (hm : MtR X id (rM X C.fr f))
    (hr : ∀ m H μ v d, RelM X m H μ → Rp X.K m v d → recv f μ d = true → tyV X.K T v H) (ho : PE X o (tE C X W i)) (hb : attributeBase o name X.env (eval o X.env) = eval o X.env) (hl : (apos.endLine == cpos.line) = true) :
    PE X (.Call (.Attribute o name apos) [] [] cpos) (tE C X W (.bm i f .nil)) := by
  refine imE (pe_bm0 pa slot hty hm ho hb hl) fun σ H Q q => ?_
  obtain ⟨m, ρ, μ, rel, loc, p⟩ := q
  simp only [evalE, evalEs] at p
  refine ⟨m, ρ, μ, rel, loc, p.bind.imp fun x μ1 m1 H1 x1 rel1 p1 v rv => ?_⟩
  split at p1
  · next hrv =>
    exact ⟨hr _ _ _ _ _ rel1 rv hrv, m1, μ1, x, [], rel1, rv, .nil, PostG.still p1 (bmeth_calm _ _ _ _ _)⟩
  · exact p1.elim
theorem ty_list {m : Mp} {H : Hp} {μ : Mem} {v : V} {d : D} (rel : RelM X m H μ) (r : Rp X.K m v d) (h : (getL μ d).isSome = true) : tyV X.K "list" v H := by
  obtain ⟨ds, e⟩ := Option.isSome_iff_exists.mp h
  obtain ⟨a, xs, rfl, h1, _⟩ := rel.getL r e
  exact .inl ⟨rfl, xs, h1.l⟩
theorem ty_dict {m : Mp} {H : Hp} {μ : Mem} {v : V} {d : D} (rel : RelM X m H μ) (r : Rp X.K m v d) (h : recv .get μ d = true) : tyV X.K "dict" v H := by
  unfold recv at h
  cases d with
  | ref k =>
    simp only [] at h
    split at h
    · next kvs e =>
      obtain ⟨l, rfl, hk, ys, h1, h2, h3⟩ := rel.at_ r e
      exact .inr (.inr (.inl ⟨rfl, .inl ⟨ys, h1⟩⟩))
    · cases h
  | _ => cases h
theorem ty_str {m : Mp} {H : Hp} {μ : Mem} {v : V} {d : D} (rel : RelM X m H μ) (r : Rp X.K m v d) (h : recv .join μ d = true) : tyV X.K "str" v H := by
  cases d with
  | str x => cases r; rfl
  | _ => cases h
/-- o.m(..) of a built-in type -/
theorem bm_ok {C : Ctx} (hu : X.A.units + 64 < cLine) {f : M} {name : PySem.Str} {o : Expr} {es : List Expr} {i : E} {is : Es} {apos cpos : Pos} (hn : mTab.lookup name = some f) (ho : PE X o (tE C X W i)) (hr : ∃ r : Expr → Option E, (∀ e i, r e = some i → PE X e (tE C X W i)) ∧ cEs r es = some is)
    (hb : attributeBase o name X.env (eval o X.env) = eval o X.env) (h30 : es.length < 30) (hl : (apos.endLine == cpos.line) = true) : PE X (.Call (.Attribute o name apos) es [] cpos) (tE C X W (.bm i f is)) := by
  obtain ⟨r, hr, he⟩ := hr
  have ha := args_ok hr he
  have hp := cEs_plain he
  have go : ∀ {T id : String}, PlainAttrs T → Slot T name id → typeOf (.builtin id) = pure (.type "method_descriptor") → MtR X id (rM X C.fr f) → (∀ m H μ v d, RelM X m H μ → Rp X.K m v d → recv f μ d = true → tyV X.K T v H) →
      PE X (.Call (.Attribute o name apos) es [] cpos) (tE C X W (.bm i f is)) := fun {T id} pa slot hty hm hrv => by
    cases es with
    | nil =>
      cases he
      exact e_bm0 pa slot hty hm hrv ho hb hl
    | cons e es => exact e_bm1 pa slot hty hm hrv ho ha hb hp h30 hl
  have hmem := of_lookup hn
  unfold mTab at hmem
  simp only [List.mem_cons, Prod.mk.injEq, List.not_mem_nil, or_false] at hmem
  rcases hmem with ⟨rfl, rfl⟩ | ⟨rfl, rfl⟩ | ⟨rfl, rfl⟩ | ⟨rfl, rfl⟩ | ⟨rfl, rfl⟩ | ⟨rfl, rfl⟩
  · exact go PySem.F.plainAttrs_list PySem.F.slot_list_append PySem.F.type_list_append m_append fun _ _ _ _ _ => ty_list
  · exact go PySem.F.plainAttrs_list PySem.F.slot_list_pop PySem.F.type_list_pop m_pop fun _ _ _ _ _ => ty_list
  · exact go PySem.F.plainAttrs_list PySem.F.slot_list_clear PySem.F.type_list_clear m_clear fun _ _ _ _ _ => ty_list
  · exact go PySem.F.plainAttrs_list PySem.F.slot_list_index PySem.F.type_list_index m_index fun _ _ _ _ _ => ty_list
  · exact go PySem.F.plainAttrs_dict PySem.F.slot_dict_get PySem.F.type_dict_get (m_get hu) fun _ _ _ _ _ => ty_dict
  · exact go PySem.F.plainAttrs_str PySem.F.slot_str_join PySem.F.type_str_join m_join fun _ _ _ _ _ => ty_str
theorem base_ok {o : Expr} {m : PySem.Str} {env : PySem.Env} (h : noSuper o = true) (w : Sem Value) : attributeBase o m env w = w := by
  unfold attributeBase
  split
  · cases h
  · rfl
end
end G
/-! The G machine over the hand layer: displays of dicts, what is walked. -/
set_option Elab.async false
set_option linter.all false
set_option maxRecDepth 100000
namespace G
open PySem PySem.Spec L2
/-! ### objects outside the store -/
section
variable {K : PySem.W.Frag} {mg : PySem.Str → Option Value} {m m' : Mp} {H H' : Hp} {μ : Mem} {p : Addr} {o : HO}
/-- p is no cell and not frozen -/
def Apart (m : Mp) (p : Addr) : Prop := (∀ k, m.al k ≠ some p) ∧ m.fz p = none
theorem RelG.out (rel : RelG K mg m H μ) (h : H p = none) : Apart m p := by
  refine ⟨fun k e => ?_, ?_⟩
  · have hk := rel.top k p e
    obtain ⟨b, hb, c⟩ := rel.cell k μ[k] (List.getElem?_eq_getElem hk)
    rw [e] at hb
    cases hb
    cases e2 : μ[k] with
    | lst ds => rw [e2] at c; obtain ⟨_, q, _⟩ := c; rw [h] at q; cases q
    | fz ds => rw [e2] at c; obtain ⟨_, q, _⟩ := c; have := rel.fzH _ _ q; rw [h] at this; cases this
    | dict ds => rw [e2] at c; obtain ⟨_, q, _⟩ := c; rw [h] at q; cases q
    | obj c' ds => rw [e2] at c; obtain ⟨_, _, _, _, q, _⟩ := c; rw [h] at q; cases q
  · cases e : m.fz p with
    | none => rfl
    | some q => have := rel.fzH _ _ e; rw [h] at this; cases this
theorem CellG.at (l : Le m m') (hf : m.fz p = none → m'.fz p = none) : ∀ {c : Cell}, CellG K mg m H p c → H' p = H p → CellG K mg m' H' p c
  | .lst ds, ⟨xs, h1, h2, h3⟩, e => ⟨xs, e.trans h1, hf h2, h3.mono l⟩
  | .fz ds, ⟨xs, h1, h3⟩, e => ⟨xs, l.fz _ _ h1, h3.mono l⟩
  | .dict kvs, ⟨ys, h1, h2, h3⟩, e => ⟨ys, e.trans h1, hf h2, Paired.imp h3 fun _ _ q => ⟨q.1, q.2.1, q.2.2.mono l⟩⟩
  | .obj c fs, ⟨C, dx, ys, h0, h1, h2, h3⟩, e => ⟨C, dx, ys, h0, e.trans h1, hf h2, Paired.imp h3 fun _ _ q => ⟨q.1, q.2.mono l⟩⟩
theorem RelG.junk (rel : RelG K mg m H μ) (h : Apart m p) (o : HO) : RelG K mg m (upd H p o) μ := by
  refine ⟨fun a q e => ?_, fun k c e => ?_, rel.inj, rel.top⟩
  · have ne : a ≠ p := fun z => by rw [z, h.2] at e; cases e
    rw [upd_ne ne]
    exact rel.fzH a q e
  · obtain ⟨a, ha, cc⟩ := rel.cell k c e
    have ne : a ≠ p := fun z => h.1 k (by rw [← z]; exact ha)
    exact ⟨a, ha, cc.at (Le.refl m) (fun z => z) (upd_ne ne)⟩
theorem Ext.junk (x : Ext m H m' H') (h : H p = none) (o : HO) : Ext m H m' (upd H' p o) := by
  refine ⟨x.le, x.alN, x.fzN, fun a q e n => ?_, fun a e => ?_⟩
  · have ne : a ≠ p := fun z => by rw [z, h] at e; cases e
    rw [upd_ne ne]
    exact x.keep a q e n
  · by_cases z : a = p
    · rw [z, upd_same]; intro q; cases q
    · rw [upd_ne z]; exact x.dom a e
/-- it stays outside -/
theorem Ext.stays (x : Ext m H m' H') (h : Apart m p) (e : H p = some o) : Apart m' p ∧ H' p = some o := by
  refine ⟨⟨fun k q => ?_, ?_⟩, x.keep p o e h.1⟩
  · rcases x.alN k p q with z | z
    · exact h.1 k z
    · rw [e] at z; cases z
  · cases q : m'.fz p with
    | none => rfl
    | some u =>
      rcases x.fzN p u q with z | z | ⟨k, z⟩
      · rw [h.2] at z; cases z
      · rw [e] at z; cases z
      · exact absurd z (h.1 k)
theorem RelG.le_add (rel : RelG K mg m H μ) (p : Addr) : Le m (m.add μ.length p) := ⟨fun k b h => by
    have := rel.top k b h
    show (if k = μ.length then some p else m.al k) = some b
    rw [if_neg (by omega)]
    exact h, fun _ _ h => h⟩
/-- it becomes a cell -/
theorem RelG.adopt {c : Cell} (rel : RelG K mg m H μ) (h : Apart m p) (hc : CellG K mg (m.add μ.length p) (upd H p o) p c) : RelG K mg (m.add μ.length p) (upd H p o) (μ ++ [c]) := by
  have l := rel.le_add p
  refine ⟨fun b q e => ?_, fun k q e => ?_, fun j k b h1 h2 => ?_, fun k b e => ?_⟩
  · have ne : b ≠ p := fun z => by rw [z] at e; have := h.2; rw [show m.fz p = some q from e] at this; cases this
    rw [upd_ne ne]
    exact rel.fzH b q e
  · by_cases hk : k < μ.length
    · rw [List.getElem?_append_left hk] at e
      obtain ⟨b, hb, cc⟩ := rel.cell k q e
      have ne : b ≠ p := fun z => h.1 k (by rw [← z]; exact hb)
      exact ⟨b, l.al _ _ hb, cc.at l (fun z => z) (upd_ne ne)⟩
    · have hk2 : k = μ.length := by
        have := (List.getElem?_eq_some_iff.mp e).1
        simp only [List.length_append, List.length_cons, List.length_nil] at this
        omega
      subst hk2
      rw [List.getElem?_append_right (Nat.le_refl _)] at e
      simp at e
      subst e
      exact ⟨p, if_pos rfl, hc⟩
  · have h1 : (if j = μ.length then some p else m.al j) = some b := h1
    have h2 : (if k = μ.length then some p else m.al k) = some b := h2
    by_cases e1 : j = μ.length
    · rw [if_pos e1] at h1
      cases h1
      by_cases e2 : k = μ.length
      · omega
      · rw [if_neg e2] at h2
        exact absurd h2 (h.1 k)
    · rw [if_neg e1] at h1
      by_cases e2 : k = μ.length
      · rw [if_pos e2] at h2
        cases h2
        exact absurd h1 (h.1 j)
      · rw [if_neg e2] at h2
        exact rel.inj j k b h1 h2
  · have e : (if k = μ.length then some p else m.al k) = some b := e
    rw [List.length_append]
    by_cases e1 : k = μ.length
    · rw [e1]; simp
    · rw [if_neg e1] at e
      have := rel.top k b e
      simp only [List.length_cons, List.length_nil]
      omega
theorem Ext.adopt (x : Ext m H m' H') (rel : RelG K mg m' H' μ) (h : H p = none) (o : HO) : Ext m H (m'.add μ.length p) (upd H' p o) := by
  have y := x.junk h o
  refine ⟨x.le.trans (rel.le_add p), fun k a e => ?_, x.fzN, y.keep, y.dom⟩
  have e : (if k = μ.length then some p else m'.al k) = some a := e
  split at e
  · cases e
    exact .inr h
  · exact x.alN k a e
end
/-! ### dicts -/
section
variable {X : Cx} {T : Tab} {C : Ctx} {W : WX}
theorem kSet_put {K : PySem.W.Frag} {m : Mp} {k : Key} {v : V} {d : D} (rv : Rp K m v d) (hb : keyB k) : ∀ {ys : List (L2.Key × V)} {kvs : List (Key × D)}, KRp K m ys kvs → KRp K m (ys.map fun kv => if kv.1 = kk k then (kv.1, v) else kv) (kSet k d kvs)
  | _, _, .nil => .nil
  | (a, w) :: ys, (b, e) :: kvs, .cons ⟨r1, r3, r2⟩ t => by
    have r1 : a = kk b := r1
    subst r1
    refine .cons ?_ (kSet_put rv hb t)
    by_cases h : b = k
    · subst h
      simp only [if_true]
      exact ⟨trivial, hb, rv⟩
    · have ne : ¬ kk b = kk k := fun z => h (kk_inj z)
      simp only [if_neg h, if_neg ne]
      exact ⟨trivial, r3, r2⟩
theorem kPut_put {K : PySem.W.Frag} {m : Mp} {k : Key} {v : V} {d : D} (rv : Rp K m v d) (hb : keyB k) {ys : List (L2.Key × V)} {kvs : List (Key × D)} (r : KRp K m ys kvs) : KRp K m (putK ys (kk k) v) (kPut k d kvs) := by
  have h := kGet_valV k r
  unfold putK kPut
  rw [valV_any]
  cases e : kGet k kvs with
  | none =>
    rw [e] at h
    rw [h]
    simp only [Option.isSome_none]
    have app : ∀ {as : List (L2.Key × V)} {bs : List (Key × D)}, KRp K m as bs → KRp K m (as ++ [(kk k, v)]) (bs ++ [(k, d)]) := fun {as bs} q => by
      induction q with
      | nil => exact .cons ⟨rfl, hb, rv⟩ .nil
      | cons a _ ih => exact .cons a ih
    exact app r
  | some w =>
    rw [e] at h
    obtain ⟨z, hz, _⟩ := h
    rw [hz]
    simp only [Option.isSome_some, if_true]
    exact kSet_put rv hb r
theorem kDel_drop {K : PySem.W.Frag} {m : Mp} {k : Key} : ∀ {ys : List (L2.Key × V)} {kvs : List (Key × D)}, KRp K m ys kvs → KRp K m (dropK ys (kk k)) (kDel k kvs)
  | _, _, .nil => .nil
  | (a, w) :: ys, (b, e) :: kvs, .cons ⟨r1, r3, r2⟩ t => by
    have r1 : a = kk b := r1
    subst r1
    have ih := kDel_drop (k := k) t
    unfold dropK at *
    by_cases h : b = k
    · subst h
      simp only [kDel, if_true]
      rw [List.filter_cons_of_neg (by simp)]
      exact ih
    · have ne : ¬ kk b = kk k := fun z => h (kk_inj z)
      simp only [kDel, if_neg h]
      rw [List.filter_cons_of_pos (by simp [ne])]
      exact .cons ⟨rfl, r3, r2⟩ ih
theorem merge_put {K : PySem.W.Frag} {m : Mp} : ∀ {vs : List (L2.Key × V)} {ds : List (Key × D)} {ys : List (L2.Key × V)} {kvs : List (Key × D)}, KRp K m vs ds → KRp K m ys kvs → KRp K m (mergeK ys vs) (ds.foldl (fun acc p => kPut p.1 p.2 acc) kvs)
  | _, _, _, _, .nil, r => r
  | (a, w) :: vs, (b, e) :: ds, ys, kvs, .cons ⟨r1, r3, r2⟩ t, r => by
    have r1 : a = kk b := r1
    subst r1
    show KRp K m (mergeK (putK ys (kk b) w) vs) (ds.foldl _ (kPut b e kvs))
    exact merge_put t (kPut_put r2 r3 r)
def trsP (C : Ctx) (X : Cx) (W : WX) : Ps → List (TE × TE)
  | .nil => []
  | .cons k v r => (tE C X W k, tE C X W v) :: trsP C X W r
theorem pairs_ok {C : Ctx} {σ : L2.St} {Q : List (V × V) → Hp → Prop} {ρ : Env} : ∀ {ps : Ps} {m : Mp} {H : Hp} {μ : Mem}, RelM X m H μ → Loc X m σ ρ →
    Post X (xw X W σ) m H (evalPs C ps ρ μ) (fun kvs _ m' H' => ∀ vs : List (L2.Key × V), KRp X.K m' vs kvs → Q (vs.map fun kv => (kV kv.1, kv.2)) H') → tPairs (trsP C X W ps) σ H Q
  | .nil, m, H, μ, rel, loc, p => by
    simp only [evalPs] at p
    exact p m H (Ext.refl _ _) rel [] .nil
  | .cons k v r, m, H, μ, rel, loc, p => by
    simp only [evalPs] at p
    refine ⟨m, ρ, μ, rel, loc, p.bind.imp fun x μ1 m1 H1 x1 rel1 p1 w rw => ?_⟩
    refine ⟨m1, ρ, μ1, rel1, loc.mono x1.le, p1.bind.imp fun y μ2 m2 H2 x2 rel2 p2 u ru => ?_⟩
    cases e : keyOf x with
    | none => rw [e] at p2; exact p2.elim
    | some q =>
      rw [e] at p2
      have rw2 := rw.mono x2.le
      have hv := keyOf_V rw2 e
      subst hv
      refine pairs_ok (ps := r) rel2 (loc.mono (x1.le.trans x2.le)) (p2.bind.imp fun kvs μ3 m3 H3 x3 rel3 p3 vs rvs => ?_)
      exact p3 m3 H3 (Ext.refl _ _) rel3 ((kk q, u) :: vs) (.cons ⟨rfl, keyOf_B rw2 e, ru.mono x3.le⟩ rvs)
theorem pps_ok {pos : Pos} {r : Expr → Option E} (hr : ∀ e i, r e = some i → PE X e (tE C X W i)) : ∀ {ks : List (Option Expr)} {vs : List Expr} {ps : Ps}, cPs r ks vs = some ps → PPs X pos ks vs (trsP C X W ps) ∧ ks.all (·.isSome) = true ∧ ks.length = vs.length
  | [], [], _, h => by
    cases h
    exact ⟨pps_nil, rfl, rfl⟩
  | some k :: ks, v :: vs, ps, h => by
    unfold cPs at h
    split at h
    · next a b ha hb =>
      simp only [Option.map_eq_some_iff] at h
      obtain ⟨qs, h1, rfl⟩ := h
      obtain ⟨q1, q2, q3⟩ := pps_ok hr h1
      exact ⟨pps_cons (hr _ _ ha) (hr _ _ hb) q1, by simpa using q2, by simp [q3]⟩
    · cases h
  | [], _ :: _, _, h => by cases h
  | none :: _, _, _, h => by
    unfold cPs at h
    cases h
  | some _ :: _, [], _, h => by cases h
theorem dict_len {r : Expr → Option E} {C : Ctx} {ρ : Env} : ∀ {ks : List (Option Expr)} {vs : List Expr} {ps : Ps} {μ μ' : Mem} {kvs : List (Key × D)}, cPs r ks vs = some ps → evalPs C ps ρ μ = .ok kvs μ' → kvs.length = ks.length
  | [], [], _, _, _, _, h, e => by
    cases h
    simp only [evalPs] at e
    cases e
    rfl
  | some k :: ks, v :: vs, ps, μ, μ', kvs, h, e => by
    unfold cPs at h
    split at h
    · next a b ha hb =>
      simp only [Option.map_eq_some_iff] at h
      obtain ⟨qs, h1, rfl⟩ := h
      simp only [evalPs] at e
      cases e1 : evalE C a ρ μ with
      | bad => rw [e1] at e; cases e
      | ex c m1 => rw [e1] at e; cases e
      | ok x μ1 =>
        rw [e1] at e
        simp only [R.bind] at e
        cases e2 : evalE C b ρ μ1 with
        | bad => rw [e2] at e; cases e
        | ex c m1 => rw [e2] at e; cases e
        | ok y μ2 =>
          rw [e2] at e
          simp only [] at e
          cases e3 : keyOf x with
          | none => rw [e3] at e; cases e
          | some q =>
            rw [e3] at e
            simp only [] at e
            cases e4 : evalPs C qs ρ μ2 with
            | bad => rw [e4] at e; cases e
            | ex c m1 => rw [e4] at e; cases e
            | ok xs μ3 =>
              rw [e4] at e
              simp only [] at e
              cases e
              simp [dict_len h1 e4]
    · cases h
  | [], _ :: _, _, _, _, _, h, _ => by cases h
  | none :: _, _, _, _, _, _, h, _ => by
    unfold cPs at h
    cases h
  | some _ :: _, [], _, _, _, _, h, _ => by cases h
theorem e_dict {r : Expr → Option E} (hr : ∀ e i, r e = some i → PE X e (tE C X W i)) {ks : List (Option Expr)} {vs : List Expr} {ps : Ps} {pos : Pos} (h : cPs r ks vs = some ps) (h15 : ks.length ≤ 15) : PE X (.Dict ks vs pos) (tE C X W (.dict ps)) := by
  obtain ⟨q1, q2, q3⟩ := pps_ok (pos := pos) hr h
  cases ks with
  | nil =>
    cases vs with
    | cons _ _ => cases h
    | nil =>
      cases h
      refine imE pe_dnewK fun σ H Q q => ?_
      obtain ⟨m, ρ, μ, rel, loc, p⟩ := q
      simp only [evalE, evalPs] at p
      exact PostG.newD (kvs := []) rel p .nil
  | cons k ks =>
    refine imE (pe_disp q1 q2 q3 (by simp) h15) fun σ H Q q p hp => ?_
    obtain ⟨m, ρ, μ, rel, loc, pp⟩ := q
    simp only [evalE] at pp
    have ho := rel.out hp
    refine pairs_ok (rel.junk ho _) loc ?_
    have pp2 := pp.bind
    cases ee : evalPs C ps ρ μ with
    | bad => rw [ee] at pp2; exact pp2.elim
    | ex c μ1 =>
      rw [ee] at pp2
      exact fun m1 H1 x1 rel1 => pp2 m1 H1 ((Ext.junk (Ext.refl m H) hp _).trans x1) rel1
    | ok kvs μ1 =>
      have hl := dict_len h ee
      rw [ee] at pp
      intro m1 H1 x1 rel1 vs rvs
      have x0 := (Ext.junk (Ext.refl m H) hp (.dK [])).trans x1
      obtain ⟨o1, e1⟩ := x1.stays ho upd_same
      refine ⟨e1, vs, rfl, ?_, ?_⟩
      · rw [rvs.length, hl]
        exact h15
      · have rel2 := rel1.adopt (o := .dK (mergeK [] vs)) (c := .dict (kvs.foldl (fun acc p => kPut p.1 p.2 acc) [])) o1 ⟨_, upd_same, o1.2, Paired.imp (merge_put rvs .nil) fun _ _ q => ⟨q.1, q.2.1, q.2.2.mono (rel1.le_add p)⟩⟩
        exact pp _ _ (x0.adopt rel1 hp _) rel2 _ (.ref (if_pos rfl))
end
end G
/-! The G machine over the hand layer: what is walked. -/
set_option Elab.async false
set_option linter.all false
set_option maxRecDepth 100000
namespace G
open PySem PySem.Spec L2
/-- the iterator J gives w's items -/
def ItOk (K : PySem.W.Frag) (mg : PySem.Str → Option Value) (w : Walk) (J : It) (m1 : Mp) (H1 : Hp) : Prop := ∀ (i : Nat) (H2 : Hp) (m2 : Mp) (μ2 : Mem), Ext m1 H1 m2 H2 → RelG K mg m2 H2 μ2 → w.keep μ2 = true →
  (i = w.items.length → J.stop i H2) ∧ ∀ d, w.items[i]? = some d → J.go i H2 ∧ ∀ x H3, J.yld i H2 x H3 → ∃ m3, Ext m2 H2 m3 H3 ∧ RelG K mg m3 H3 μ2 ∧ Rp K m3 x d
section
variable {X : Cx} {T : Tab} {C : Ctx} {W : WX}
def tI (C : Ctx) (X : Cx) (W : WX) (i : I) : TI := fun σ H R => ∃ m ρ μ, RelM X m H μ ∧ Loc X m σ ρ ∧ Post X (xw X W σ) m H (walkI C i ρ μ) fun w _ m' H' => ∀ J, ItOk X.K X.mg w J m' H' → R J H'
theorem imI {tg e : Expr} {t t' : TI} (h : PI X tg e t) (i : ∀ σ H Q, t' σ H Q → t σ H Q) : PI X tg e t' := ⟨fun pins s σ H Q I q => h.run pins s σ H Q I (i σ H Q q)⟩
theorem orI {tg e : Expr} {t t' : TI} (h : PI X tg e t) (h' : PI X tg e t') : PI X tg e fun σ H R => t σ H R ∨ t' σ H R := ⟨fun pins s σ H Q I q => q.elim (h.run pins s σ H Q I) (h'.run pins s σ H Q I)⟩
theorem it_list {m : Mp} {H : Hp} {w : Walk} {d : D} {a : Addr} (r : Rp X.K m (.ref a) d) (hk : ∀ μ, w.keep μ = true → getL μ d = some w.items) : ItOk X.K X.mg w (Itl X.K a) m H := by
  intro i H2 m2 μ2 x2 rel2 k
  obtain ⟨a', xs, e, h1, h3⟩ := rel2.getL (r.mono x2.le) (hk μ2 k)
  cases e
  refine ⟨fun e => ⟨xs, h1.l, by rw [h3.len, e]; exact Nat.le_refl _⟩, fun d' hd => ?_⟩
  obtain ⟨v, hv, rv⟩ := h3.get hd
  refine ⟨⟨xs, v, h1.l, hv⟩, fun x H3 ⟨e, y⟩ => ?_⟩
  subst e
  have := y xs h1.l
  rw [hv] at this
  cases this
  exact ⟨m2, Ext.refl _ _, rel2, rv⟩
theorem it_tup {m : Mp} {H : Hp} {w : Walk} {a : Addr} (r : Rp X.K m (.ref a) (.tup w.items)) : ItOk X.K X.mg w (Itt X.K a) m H := by
  intro i H2 m2 μ2 x2 rel2 k
  obtain ⟨a', xs, e, h1, h3⟩ := rel2.getT (r.mono x2.le)
  cases e
  refine ⟨fun e => ⟨xs, h1, by rw [h3.len, e]; exact Nat.le_refl _⟩, fun d' hd => ?_⟩
  obtain ⟨v, hv, rv⟩ := h3.get hd
  refine ⟨⟨xs, v, h1, hv⟩, fun x H3 ⟨e, y⟩ => ?_⟩
  subst e
  have := y xs h1
  rw [hv] at this
  cases this
  exact ⟨m2, Ext.refl _ _, rel2, rv⟩
theorem it_str {m : Mp} {H : Hp} {w : Walk} {z : Tx} (hw : w.items = z.map fun c => D.str [c]) : ItOk X.K X.mg w (Its (cs z)) m H := by
  intro i H2 m2 μ2 x2 rel2 k
  rw [hw]
  have hl : (cs z).cps.size = z.length := by simp [cs]
  refine ⟨fun e => by show (cs z).cps.size ≤ i; rw [hl, e, List.length_map]; exact Nat.le_refl _, fun d' hd => ?_⟩
  rw [List.getElem?_map, Option.map_eq_some_iff] at hd
  obtain ⟨c, hc, rfl⟩ := hd
  have hi := (List.getElem?_eq_some_iff.mp hc).1
  refine ⟨by show i < (cs z).cps.size; rw [hl]; exact hi, fun x H3 ⟨e, c', hc', ex⟩ => ?_⟩
  subst e ex
  have e1 : (cs z).cps[i]? = some c.toNat := by
    show (z.map Char.toNat).toArray[i]? = _
    rw [List.getElem?_toArray, List.getElem?_map, hc]
    rfl
  rw [e1] at hc'
  cases hc'
  exact ⟨m2, Ext.refl _ _, rel2, .str [c] (by show 1 ≤ 16777216; decide)⟩
theorem rangeL_at {lo hi : Int} {i : Nat} {d : D} (h : (rangeL lo hi)[i]? = some d) : i < (hi - lo).toNat ∧ d = .int (lo + (i : Int)) := by
  unfold rangeL at h
  rw [List.getElem?_map, Option.map_eq_some_iff] at h
  obtain ⟨j, hj, rfl⟩ := h
  obtain ⟨h1, h2⟩ := List.getElem?_eq_some_iff.mp hj
  rw [List.getElem_range] at h2
  rw [List.length_range] at h1
  exact ⟨h1, by rw [h2]⟩
theorem it_range {m : Mp} {H : Hp} {w : Walk} {lo hi : Int} (hw : w.items = rangeL lo hi) : ItOk X.K X.mg w (Itr lo (hi - lo).toNat) m H := by
  intro i H2 m2 μ2 x2 rel2 k
  rw [hw]
  refine ⟨fun e => by show (hi - lo).toNat ≤ i; rw [e]; simp [rangeL], fun d' hd => ?_⟩
  obtain ⟨h1, rfl⟩ := rangeL_at hd
  refine ⟨h1, fun x H3 ⟨e, ex⟩ => ?_⟩
  subst e ex
  exact ⟨m2, Ext.refl _ _, rel2, .int _⟩
theorem numbered_at : ∀ {ds : List D} {n i : Nat} {d : D}, (numbered n ds)[i]? = some d → ∃ e, ds[i]? = some e ∧ d = .tup [.int ((n + i : Nat) : Int), e]
  | [], _, _, _, h => by simp [numbered] at h
  | e :: ds, n, 0, d, h => by
    simp [numbered] at h
    exact ⟨e, rfl, h.symm⟩
  | e :: ds, n, i + 1, d, h => by
    simp only [numbered, List.getElem?_cons_succ] at h
    obtain ⟨f, h1, h2⟩ := numbered_at h
    exact ⟨f, by simpa using h1, by rw [h2]; congr 4; omega⟩
theorem numbered_len : ∀ (n : Nat) (ds : List D), (numbered n ds).length = ds.length
  | _, [] => rfl
  | n, d :: ds => by simp [numbered, numbered_len (n + 1) ds]
theorem it_enum {m : Mp} {H : Hp} {w : Walk} {d : D} {ds : List D} {a : Addr} (r : Rp X.K m (.ref a) d) (hw : w.items = numbered 0 ds) (hk : ∀ μ, w.keep μ = true → getL μ d = some ds) : ItOk X.K X.mg w (Ite X.K a) m H := by
  intro i H2 m2 μ2 x2 rel2 k
  obtain ⟨a', xs, e, h1, h3⟩ := rel2.getL (r.mono x2.le) (hk μ2 k)
  cases e
  rw [hw]
  refine ⟨fun e => ⟨xs, h1.l, by rw [h3.len, e, numbered_len]; exact Nat.le_refl _⟩, fun d' hd => ?_⟩
  obtain ⟨e, he, rfl⟩ := numbered_at hd
  obtain ⟨v, hv, rv⟩ := h3.get he
  refine ⟨⟨xs, v, h1.l, hv⟩, fun x H3 ⟨t, y, ex, hn, eH, hy⟩ => ?_⟩
  subst ex eH
  have := hy xs h1.l
  rw [hv] at this
  cases this
  obtain ⟨q1, q2, _⟩ := rel2.newF (o := .tup [.int (i : Nat), v]) hn
  refine ⟨_, q2, q1, .tup (SqT.of upd_same) (.cons ?_ (.cons (rv.mono q2.le) .nil))⟩
  rw [Nat.zero_add]
  exact .int _
theorem pairUp_at : ∀ {xs ys : List D} {i : Nat} {d : D}, (pairUp xs ys)[i]? = some d → ∃ e f, xs[i]? = some e ∧ ys[i]? = some f ∧ d = .tup [e, f]
  | [], _, _, _, h => by simp [pairUp] at h
  | _ :: _, [], _, _, h => by simp [pairUp] at h
  | x :: xs, y :: ys, 0, d, h => by
    simp [pairUp] at h
    exact ⟨x, y, rfl, rfl, h.symm⟩
  | x :: xs, y :: ys, i + 1, d, h => by
    simp only [pairUp, List.getElem?_cons_succ] at h
    obtain ⟨e, f, h1, h2, h3⟩ := pairUp_at h
    exact ⟨e, f, by simpa using h1, by simpa using h2, h3⟩
theorem pairUp_len : ∀ (xs ys : List D), (pairUp xs ys).length = min xs.length ys.length
  | [], _ => by simp [pairUp]
  | _ :: _, [] => by simp [pairUp]
  | x :: xs, y :: ys => by
    simp only [pairUp, List.length_cons, pairUp_len xs ys]
    omega
theorem it_zip {m : Mp} {H : Hp} {w : Walk} {d e : D} {xs ys : List D} {a b : Addr} (ra : Rp X.K m (.ref a) d) (rb : Rp X.K m (.ref b) e) (hw : w.items = pairUp xs ys) (hk : ∀ μ, w.keep μ = true → getL μ d = some xs ∧ getL μ e = some ys) : ItOk X.K X.mg w (Itz X.K a b) m H := by
  intro i H2 m2 μ2 x2 rel2 k
  obtain ⟨a', vs, e1, h1, h3⟩ := rel2.getL (ra.mono x2.le) (hk μ2 k).1
  cases e1
  obtain ⟨b', us, e2, h4, h5⟩ := rel2.getL (rb.mono x2.le) (hk μ2 k).2
  cases e2
  rw [hw]
  refine ⟨fun e => ⟨vs, us, h1.l, h4.l, by rw [h3.len, h5.len, e, pairUp_len]; omega⟩, fun d' hd => ?_⟩
  obtain ⟨p, q, hp, hq, rfl⟩ := pairUp_at hd
  obtain ⟨v, hv, rv⟩ := h3.get hp
  obtain ⟨u, hu, ru⟩ := h5.get hq
  refine ⟨⟨vs, us, v, u, h1.l, h4.l, hv, hu⟩, fun x H3 ⟨t, y, z, ex, hn, eH, hy, hz⟩ => ?_⟩
  subst ex eH
  have q1 := hy vs h1.l
  rw [hv] at q1
  cases q1
  have q2 := hz us h4.l
  rw [hu] at q2
  cases q2
  obtain ⟨q1, q2, _⟩ := rel2.newF (o := .tup [v, u]) hn
  exact ⟨_, q2, q1, .tup (SqT.of upd_same) (.cons (rv.mono q2.le) (.cons (ru.mono q2.le) .nil))⟩
theorem it_rev {m : Mp} {H : Hp} {w : Walk} {d : D} {ds : List D} {a : Addr} (r : Rp X.K m (.ref a) d) (hw : w.items = ds.reverse) (hk : ∀ μ, w.keep μ = true → getL μ d = some ds) : ItOk X.K X.mg w (Itv X.K a ds.length) m H := by
  intro i H2 m2 μ2 x2 rel2 k
  obtain ⟨a', xs, e, h1, h3⟩ := rel2.getL (r.mono x2.le) (hk μ2 k)
  cases e
  rw [hw]
  refine ⟨fun e => by show ds.length ≤ i; rw [e, List.length_reverse]; exact Nat.le_refl _, fun d' hd => ?_⟩
  have hi : i < ds.length := by
    have := (List.getElem?_eq_some_iff.mp hd).1
    rwa [List.length_reverse] at this
  rw [List.getElem?_reverse hi] at hd
  obtain ⟨v, hv, rv⟩ := h3.get hd
  refine ⟨⟨hi, xs, v, h1.l, hv⟩, fun x H3 ⟨e, y⟩ => ?_⟩
  subst e
  have := y xs h1.l
  rw [hv] at this
  cases this
  exact ⟨m2, Ext.refl _ _, rel2, rv⟩
theorem PostG.here {α : Type} {Xc : String → Mem → Mp → Hp → Prop} {m : Mp} {H : Hp} {μ : Mem} {a : α} {k : α → Mem → Mp → Hp → Prop} (p : Post X Xc m H (.ok a μ) k) (rel : RelM X m H μ) : k a μ m H := p m H (Ext.refl _ _) rel
/-- a list, a tuple, a text -/
theorem i_seq {tg e : Expr} {i : E} (he : PE X e (tE C X W i)) : PI X tg e (tI C X W (.seq i)) := by
  refine imI (orI (pi_list he) (orI (pi_tup he) (pi_str he))) fun σ H R q => ?_
  obtain ⟨m, ρ, μ, rel, loc, p⟩ := q
  simp only [walkI] at p
  have pb := p.bind
  cases ee : evalE C i ρ μ with
  | bad => rw [ee] at pb; exact pb.elim
  | ex c μ1 =>
    refine .inl ⟨m, ρ, μ, rel, loc, ?_⟩
    rw [ee] at pb ⊢
    exact pb
  | ok d μ1 =>
    have go : ∀ (G : V → Hp → Prop), (∀ m1 H1 v, Ext m H m1 H1 → RelM X m1 H1 μ1 → Rp X.K m1 v d → Post X (xw X W σ) m1 H1 (optW (walkSeq μ1 d) μ1) (fun w _ m' H' => ∀ J, ItOk X.K X.mg w J m' H' → R J H') → G v H1) →
        ∃ m ρ μ, RelM X m H μ ∧ Loc X m σ ρ ∧ Post X (xw X W σ) m H (evalE C i ρ μ) fun d _ m' H' => ∀ v, Rp X.K m' v d → G v H' := fun G hG => by
      refine ⟨m, ρ, μ, rel, loc, ?_⟩
      rw [ee] at pb ⊢
      exact fun m1 H1 x1 rel1 v rv => hG m1 H1 v x1 rel1 rv (pb m1 H1 x1 rel1)
    have stuck : ∀ (G : V → Hp → Prop), walkSeq μ1 d = none → ∃ m ρ μ, RelM X m H μ ∧ Loc X m σ ρ ∧ Post X (xw X W σ) m H (evalE C i ρ μ) fun d _ m' H' => ∀ v, Rp X.K m' v d → G v H' := fun G hn => go G fun m1 H1 v _ _ _ p1 => by
      rw [hn] at p1
      exact p1.elim
    have listy : ∀ ds : List D, walkSeq μ1 d = some ⟨ds, fun μ => decide (getL μ d = some ds)⟩ ∨ walkSeq μ1 d = some ⟨ds, fun _ => true⟩ ∧ (∀ μ, getL μ d = some ds) → getL μ1 d = some ds → iList X.K (tE C X W i) σ H R := fun ds hw hg => go _ fun m1 H1 v x1 rel1 rv p1 => by
      obtain ⟨a, xs, rfl, h1, h3⟩ := rel1.getL rv hg
      refine ⟨a, rfl, ⟨xs, h1.l⟩, ?_⟩
      rcases hw with hw | ⟨hw, hall⟩
      · rw [hw] at p1
        exact PostG.here p1 rel1 _ (it_list rv fun μ h => by simpa using h)
      · rw [hw] at p1
        exact PostG.here p1 rel1 _ (it_list rv fun μ _ => hall μ)
    cases d with
    | tup ds =>
      refine .inr (.inl (go _ fun m1 H1 v x1 rel1 rv p1 => ?_))
      obtain ⟨a, xs, rfl, h1, h3⟩ := rel1.getT rv
      exact ⟨a, rfl, ⟨xs, h1⟩, PostG.here p1 rel1 _ (it_tup (w := ⟨ds, fun _ => true⟩) rv)⟩
    | lst ds => exact .inl (listy ds (.inr ⟨rfl, fun _ => rfl⟩) rfl)
    | str z =>
      refine .inr (.inr (go _ fun m1 H1 v x1 rel1 rv p1 => ?_))
      cases rv
      exact ⟨cs z, rfl, PostG.here p1 rel1 _ (it_str rfl)⟩
    | ref k =>
      cases ek : μ1[k]? with
      | none => exact .inl (stuck _ (by simp only [walkSeq, ek]))
      | some c =>
        cases c with
        | lst ds => exact .inl (listy ds (.inl (by simp only [walkSeq, ek])) (by simp only [getL, ek]))
        | fz ds => exact .inl (listy ds (.inl (by simp only [walkSeq, ek])) (by simp only [getL, ek]))
        | dict _ => exact .inl (stuck _ (by simp only [walkSeq, ek]))
        | obj _ _ => exact .inl (stuck _ (by simp only [walkSeq, ek]))
    | non => exact .inl (stuck _ rfl)
    | bl _ => exact .inl (stuck _ rfl)
    | int _ => exact .inl (stuck _ rfl)
theorem fits62_ok {i : Int} (h : fits62 i = true) : -(2 ^ 62) ≤ i ∧ i < 2 ^ 62 := by
  unfold fits62 at h
  simp only [decide_eq_true_eq] at h
  omega
theorem i_range1 {tg a : Expr} {i : E} {p pos : Pos} (ok : Ok T C X W) (hg : Gl X "range") (ha : PE X a (tE C X W i)) (hp : plainE a = true) : PI X tg (.Call (.Name "range" p) [a] [] pos) (tI C X W (.range (.cons i .nil))) := by
  refine imI (pi_range1 hg ok.lib.range (pa_cons ha pa_nil (star_one hp)) (by rw [star_one hp]; rfl)) fun σ H R q => ?_
  obtain ⟨m, ρ, μ, rel, loc, pp⟩ := q
  simp only [walkI, evalEs] at pp
  refine ⟨m, ρ, μ, rel, loc, pp.bind.bind.imp fun x μ1 m1 H1 x1 rel1 p1 v rv => ?_⟩
  have p1 : Post X (xw X W σ) m1 H1 (optW (walkRange [x]) μ1) fun w _ m' H' => ∀ J, ItOk X.K X.mg w J m' H' → R J H' := PostG.here (a := [x]) p1 rel1
  cases rv with
  | int n =>
    simp only [walkRange] at p1
    split at p1
    · next hw =>
      obtain ⟨h1, h2⟩ := fits62_ok hw
      refine ⟨n, rfl, h1, h2, ?_⟩
      have q := PostG.here p1 rel1 (Itr 0 (n - 0).toNat) (it_range rfl)
      simpa using q
    · exact p1.elim
  | _ => exact p1.elim
theorem i_range2 {tg a b : Expr} {i j : E} {p pos : Pos} (ok : Ok T C X W) (hg : Gl X "range") (ha : PE X a (tE C X W i)) (hp : plainE a = true) (hb : PE X b (tE C X W j)) (hpb : plainE b = true) : PI X tg (.Call (.Name "range" p) [a, b] [] pos) (tI C X W (.range (.cons i (.cons j .nil)))) := by
  refine imI (pi_range2 hg ok.lib.range (pa_cons ha (pa_cons hb pa_nil (star_one hpb)) (star_one hp)) (by rw [star_one hp, star_one hpb]; rfl) (by rw [star_one hpb]; rfl)) fun σ H R q => ?_
  obtain ⟨m, ρ, μ, rel, loc, pp⟩ := q
  simp only [walkI, evalEs] at pp
  refine ⟨m, ρ, μ, rel, loc, pp.bind.bind.imp fun x μ1 m1 H1 x1 rel1 p1 v rv => ?_⟩
  refine ⟨m1, ρ, μ1, rel1, loc.mono x1.le, p1.bind.bind.imp fun y μ2 m2 H2 x2 rel2 p2 u ru => ?_⟩
  have p2 : Post X (xw X W σ) m2 H2 (optW (walkRange [x, y]) μ2) fun w _ m' H' => ∀ J, ItOk X.K X.mg w J m' H' → R J H' := PostG.here (a := [x, y]) (PostG.here (a := [y]) p2 rel2) rel2
  cases rv with
  | int n =>
    cases ru with
    | int k =>
      simp only [walkRange] at p2
      split at p2
      · next hw =>
        rw [Bool.and_eq_true] at hw
        obtain ⟨h1, h2⟩ := fits62_ok hw.1
        obtain ⟨h3, h4⟩ := fits62_ok hw.2
        exact ⟨n, k, rfl, ⟨h1, h2, h3, h4⟩, PostG.here p2 rel2 (Itr n (k - n).toNat) (it_range rfl)⟩
      · exact p2.elim
    | _ => exact p2.elim
  | _ => cases ru <;> exact p2.elim
theorem i_enum {a : Expr} {i : E} {p pos tpos : Pos} {elts : List Expr} {kk : Nat} (ok : Ok T C X W) (hg : Gl X "enumerate") (ha : PE X a (tE C X W i)) (hp : plainE a = true) : PI X (.Tuple elts kk tpos) (.Call (.Name "enumerate" p) [a] [] pos) (tI C X W (.enum i)) := by
  refine imI (pi_enum hg ok.lib.enumerate (pa_cons ha pa_nil (star_one hp)) (by rw [star_one hp]; rfl)) fun σ H R q => ?_
  obtain ⟨m, ρ, μ, rel, loc, pp⟩ := q
  simp only [walkI] at pp
  refine ⟨m, ρ, μ, rel, loc, pp.bind.imp fun x μ1 m1 H1 x1 rel1 p1 v rv => ?_⟩
  unfold walkEnum at p1
  cases e : getL μ1 x with
  | none => rw [e] at p1; exact p1.elim
  | some ds =>
    rw [e] at p1
    obtain ⟨a, xs, rfl, h1, h3⟩ := rel1.getL rv e
    exact ⟨a, xs, rfl, h1.l, PostG.here p1 rel1 _ (it_enum rv rfl fun μ h => by simpa using h)⟩
theorem i_zip {a b : Expr} {i j : E} {p pos tpos : Pos} {elts : List Expr} {kk : Nat} (ok : Ok T C X W) (hg : Gl X "zip") (ha : PE X a (tE C X W i)) (hp : plainE a = true) (hb : PE X b (tE C X W j)) (hpb : plainE b = true) :
    PI X (.Tuple elts kk tpos) (.Call (.Name "zip" p) [a, b] [] pos) (tI C X W (.zip i j)) := by
  refine imI (pi_zip hg ok.lib.zip (pa_cons ha (pa_cons hb pa_nil (star_one hpb)) (star_one hp)) (star_one hp) (by rw [star_one hpb]; rfl)) fun σ H R q => ?_
  obtain ⟨m, ρ, μ, rel, loc, pp⟩ := q
  simp only [walkI] at pp
  refine ⟨m, ρ, μ, rel, loc, pp.bind.imp fun x μ1 m1 H1 x1 rel1 p1 v rv => ?_⟩
  refine ⟨m1, ρ, μ1, rel1, loc.mono x1.le, p1.bind.imp fun y μ2 m2 H2 x2 rel2 p2 u ru => ?_⟩
  unfold walkZip at p2
  split at p2
  · next xs ys e1 e2 =>
    have rv2 := rv.mono x2.le
    obtain ⟨a, vs, rfl, h1, h3⟩ := rel2.getL rv2 e1
    obtain ⟨b, us, rfl, h4, h5⟩ := rel2.getL ru e2
    exact ⟨a, b, vs, us, rfl, h1.l, h4.l, PostG.here p2 rel2 _ (it_zip rv2 ru rfl fun μ h => by simpa using h)⟩
  · exact p2.elim
theorem i_rev {tg a : Expr} {i : E} {p pos : Pos} (ok : Ok T C X W) (hg : Gl X "reversed") (ha : PE X a (tE C X W i)) (hp : plainE a = true) : PI X tg (.Call (.Name "reversed" p) [a] [] pos) (tI C X W (.rev i)) := by
  refine imI (pi_reversed hg ok.lib.reversed (pa_cons ha pa_nil (star_one hp)) (by rw [star_one hp]; rfl)) fun σ H R q => ?_
  obtain ⟨m, ρ, μ, rel, loc, pp⟩ := q
  simp only [walkI] at pp
  refine ⟨m, ρ, μ, rel, loc, pp.bind.imp fun x μ1 m1 H1 x1 rel1 p1 v rv => ?_⟩
  unfold walkRev at p1
  cases e : getL μ1 x with
  | none => rw [e] at p1; exact p1.elim
  | some ds =>
    rw [e] at p1
    obtain ⟨a, xs, rfl, h1, h3⟩ := rel1.getL rv e
    refine ⟨a, xs, rfl, h1.l, ?_⟩
    rw [h3.len]
    exact PostG.here p1 rel1 _ (it_rev rv rfl fun μ h => by simpa using h)
/-- what is walked is served -/
theorem iter_ok (ok : Ok T C X W) {r : Expr → Option E} (hr : ∀ e i, r e = some i → PE X e (tE C X W i)) {tg it : Expr} {i : I} (h : cI X.env.scope r tg it = some i) : PI X tg it (tI C X W i) := by
  unfold cI at h
  split at h
  · next hpl =>
    split at h
    · simp only [Option.map_eq_some_iff] at h
      obtain ⟨j, h1, rfl⟩ := h
      exact i_seq (hr _ _ h1)
    · split at h
      · next _ x p args pos _ =>
        split at h
        · next hg =>
          have hg := isGl_ok hg
          split at h
          · next ex =>
            subst ex
            split at h
            · next hl =>
              simp only [Option.map_eq_some_iff] at h
              obtain ⟨is, h1, rfl⟩ := h
              cases args with
              | nil => simp at hl
              | cons a r1 =>
                unfold cEs at h1
                split at h1
                · next hp =>
                  split at h1
                  · next j hj =>
                    simp only [Option.map_eq_some_iff] at h1
                    obtain ⟨js, h2, rfl⟩ := h1
                    cases r1 with
                    | nil =>
                      cases h2
                      exact i_range1 ok hg (hr _ _ hj) hp
                    | cons b r2 =>
                      unfold cEs at h2
                      split at h2
                      · next hp2 =>
                        split at h2
                        · next j2 hj2 =>
                          simp only [Option.map_eq_some_iff] at h2
                          obtain ⟨js2, h3, rfl⟩ := h2
                          cases r2 with
                          | nil =>
                            cases h3
                            exact i_range2 ok hg (hr _ _ hj) hp (hr _ _ hj2) hp2
                          | cons c r3 => simp at hl
                        · cases h2
                      · cases h2
                  · cases h1
                · cases h1
            · cases h
          · split at h
            · next ex =>
              subst ex
              split at h
              · next a =>
                split at h
                · next hc =>
                  rw [Bool.and_eq_true] at hc
                  simp only [Option.map_eq_some_iff] at h
                  obtain ⟨j, h1, rfl⟩ := h
                  cases tg with
                  | Tuple elts kk tpos => exact i_enum ok hg (hr _ _ h1) hc.2
                  | _ => cases hc.1
                · cases h
              · cases h
            · split at h
              · next ex =>
                subst ex
                split at h
                · next a b =>
                  split at h
                  · next hc =>
                    simp only [Bool.and_eq_true] at hc
                    split at h
                    · next i1 i2 h1 h2 =>
                      cases h
                      cases tg with
                      | Tuple elts kk tpos => exact i_zip ok hg (hr _ _ h1) hc.1.2 (hr _ _ h2) hc.2
                      | _ => cases hc.1.1
                    · cases h
                  · cases h
                · cases h
              · split at h
                · next ex =>
                  subst ex
                  split at h
                  · next a =>
                    split at h
                    · next hc =>
                      simp only [Option.map_eq_some_iff] at h
                      obtain ⟨j, h1, rfl⟩ := h
                      exact i_rev ok hg (hr _ _ h1) hc
                    · cases h
                  · cases h
                · cases h
        · cases h
      · cases h
  · cases h
end
end G
/-! The G machine over the hand layer: targets of names, list comprehensions. -/
set_option Elab.async false
set_option linter.all false
set_option maxRecDepth 100000
namespace G
open PySem PySem.Spec L2
section
variable {X : Cx} {T : Tab} {C : Ctx} {W : WX}
/-- no wish -/
abbrev W0 : WX := fun _ _ _ _ => False
theorem PostG.weak {α : Type} {Xd : String → Mem → Mp → Hp → Prop} {m : Mp} {H : Hp} {r : R α} {k : α → Mem → Mp → Hp → Prop} (h : Post X (fun _ _ _ _ => False) m H r k) : Post X Xd m H r k := by
  cases r with
  | bad => exact h
  | ok a μ => exact h
  | ex d μ => exact fun m' H' x rel => (h m' H' x rel).elim
/-! ### targets of names -/
def tBn (X : Cx) (t : G.T) : TG := fun v σ H Q => ∃ m μ ρ d ρ', RelM X m H μ ∧ Loc X m σ ρ ∧ Rp X.K m v d ∧ bindT t d ρ = some ρ' ∧ ∀ σ' : L2.St, Loc X m σ' ρ' → (∀ j, j ∉ slotsT t → σ'[j]? = σ[j]?) → σ'.length = σ.length → Q σ' H
def tBns (X : Cx) (ts : Ts) : TGs := fun vs σ H Q => ∃ m μ ρ ds ρ', RelM X m H μ ∧ Loc X m σ ρ ∧ Rps X.K m vs ds ∧ bindTs ts ds ρ = some ρ' ∧ ∀ σ' : L2.St, Loc X m σ' ρ' → (∀ j, j ∉ slotsTs ts → σ'[j]? = σ[j]?) → σ'.length = σ.length → Q σ' H
theorem imG {e : Expr} {t t' : TG} (h : PG X e t) (i : ∀ v σ H Q, t' v σ H Q → t v σ H Q) : PG X e t' := ⟨fun pins s σ H v u Q I r q => h.run pins s σ H v u Q I r (i v σ H Q q)⟩
theorem imGs {e : List Expr} {t t' : TGs} (h : PGs X e t) (i : ∀ v σ H Q, t' v σ H Q → t v σ H Q) : PGs X e t' := ⟨fun pins s σ H v u Q I r q => h.run pins s σ H v u Q I r (i v σ H Q q)⟩
theorem asg_one {e : Expr} {es : List Expr} {env : PySem.Env} (h : plainE e = true) : assignEach (e :: es) env = (false, assign e env) :: assignEach es env := by
  cases e <;> first | rfl | cases h
theorem asg_len {env : PySem.Env} : ∀ {es : List Expr}, plains es = true → (assignEach es env).length = es.length
  | [], _ => rfl
  | e :: es, h => by
    simp only [plains, List.all_cons, Bool.and_eq_true] at h
    rw [asg_one h.1, List.length_cons, List.length_cons, asg_len h.2]
theorem asg_none {env : PySem.Env} : ∀ {es : List Expr}, plains es = true → (assignEach es env).findIdx? (·.1) = none
  | [], _ => rfl
  | e :: es, h => by
    simp only [plains, List.all_cons, Bool.and_eq_true] at h
    rw [asg_one h.1, List.findIdx?_cons, asg_none h.2]
    rfl
theorem bindTs_len : ∀ {ts : Ts} {ds : List D} {ρ ρ' : Env}, bindTs ts ds ρ = some ρ' → ds.length = lenTs ts
  | .nil, [], _, _, _ => rfl
  | .nil, _ :: _, _, _, h => by simp [bindTs] at h
  | .cons t r, [], _, _, h => by simp [bindTs] at h
  | .cons t r, d :: ds, ρ, ρ', h => by
    simp only [bindTs] at h
    split at h
    · next ρ1 e => simp [lenTs, bindTs_len h]
    · cases h
theorem ts_ok {rt : Expr → Option G.T} (hrt : ∀ e t, rt e = some t → PG X e (tBn X t)) : ∀ {es : List Expr} {ts : Ts}, cTs rt es = some ts → PGs X es (tBns X ts) ∧ plains es = true ∧ lenTs ts = es.length
  | [], _, h => by
    cases h
    refine ⟨imGs pgs_nil fun v σ H Q q => ?_, rfl, rfl⟩
    obtain ⟨m, μ, ρ, ds, ρ', rel, loc, r, e, q⟩ := q
    cases r with
    | nil =>
      simp only [bindTs, Option.some.injEq] at e
      subst e
      exact ⟨rfl, q σ loc (fun _ _ => rfl) rfl⟩
    | cons _ _ => simp [bindTs] at e
  | e :: es, ts, h => by
    unfold cTs at h
    split at h
    · next hp =>
      split at h
      · next a b ha hb =>
        cases h
        obtain ⟨q1, q2, q3⟩ := ts_ok hrt hb
        refine ⟨imGs (pgs_cons (hrt _ _ ha) q1 (by rw [asg_one hp]; rfl)) fun v σ H Q q => ?_, by simpa [plains, hp] using q2, by simp [lenTs, q3]⟩
        obtain ⟨m, μ, ρ, ds, ρ', rel, loc, r, e, q⟩ := q
        cases r with
        | nil => simp [bindTs] at e
        | cons r1 r2 =>
          simp only [bindTs] at e
          split at e
          · next ρ1 e1 =>
            refine ⟨_, _, rfl, m, μ, ρ, _, ρ1, rel, loc, r1, e1, fun σ1 loc1 s1 l1 => ?_⟩
            refine ⟨m, μ, ρ1, _, ρ', rel, loc1, r2, e, fun σ2 loc2 s2 l2 => q σ2 loc2 (fun j hj => ?_) (l2.trans l1)⟩
            simp only [slotsTs, List.mem_append, not_or] at hj
            rw [s2 j hj.2, s1 j hj.1]
          · cases e
      · cases h
    · cases h
theorem name_tg {x : PySem.Str} {i : Nat} {pos : Pos} (nd : X.N.Nodup) (hi : slotAt x X.N 0 = some i) (hl : L2.Loc X.env.scope x) (hf : X.fn x = true ∨ X.env.scope.names.lookup x = some .local) : PG X (.Name x pos) (tBn X (G.T.name i)) := by
  refine imG (pg_name nd (slot_at hi) hl hf) fun v σ H Q q => ?_
  obtain ⟨m, μ, ρ, d, ρ', rel, loc, r, e, q⟩ := q
  simp only [bindT, Option.some.injEq] at e
  subst e
  refine q _ (loc.set r i) (fun j hj => ?_) (List.length_set ..)
  simp only [slotsT, List.mem_singleton] at hj
  rw [List.getElem?_set_ne (Ne.symm hj)]
theorem n_ok (calm : X.calm = true) (nd : X.N.Nodup) {tsc : Scope} (ht : ∀ x, isLoc tsc x = true → L2.Loc X.env.scope x ∧ (X.fn x = true ∨ X.env.scope.names.lookup x = some .local)) : ∀ {n : Nat} {e : Expr} {t : G.T}, cTn X.N tsc n e = some t → PG X e (tBn X t)
  | 0, _, _, h => by cases h
  | n + 1, e, t, h => by
    unfold cTn at h
    split at h
    · split at h
      · next hl =>
        simp only [Option.map_eq_some_iff] at h
        obtain ⟨i, h1, rfl⟩ := h
        exact name_tg nd h1 (ht _ hl).1 (ht _ hl).2
      · cases h
    · simp only [Option.map_eq_some_iff] at h
      obtain ⟨ts, h1, rfl⟩ := h
      obtain ⟨q1, q2, q3⟩ := ts_ok (fun e t he => n_ok calm nd ht (n := n) he) h1
      refine imG (pg_tup calm q1 (asg_len q2) (asg_none q2)) fun v σ H Q q => ?_
      obtain ⟨m, μ, ρ, d, ρ', rel, loc, r, e, q⟩ := q
      simp only [bindT] at e
      split at e
      · next ds ed =>
        cases d with
        | tup es =>
          cases ed
          obtain ⟨a, xs, rfl, h3, h4⟩ := rel.getT r
          exact ⟨a, xs, rfl, h3, by rw [h4.len, bindTs_len e, q3], m, μ, ρ, _, ρ', rel, loc, h4, e, q⟩
        | _ => cases ed
      · cases e
    · cases h
/-! ### the block's slots -/
theorem wipe_at {σ : L2.St} {i : Nat} : ∀ {vs : List Nat}, (wipe σ vs)[i]? = if i ∈ vs ∧ i < σ.length then some none else σ[i]?
  | [] => by simp [wipe]
  | v :: vs => by
    have ih := @wipe_at σ i vs
    unfold wipe
    by_cases e : v = i
    · subst e
      by_cases h : v < σ.length
      · rw [List.getElem?_set_self (by rw [wipe_length]; exact h), if_pos ⟨List.mem_cons_self, h⟩]
      · rw [if_neg (fun z => h z.2), List.getElem?_eq_none (by rw [List.length_set, wipe_length]; omega), List.getElem?_eq_none (by omega)]
    · rw [List.getElem?_set_ne e, ih]
      simp [Ne.symm e]
theorem wipe_same {σ σ2 : L2.St} {vs sl : List Nat} (hs : ∀ i ∈ sl, i ∈ vs) (h : ∀ j, j ∉ sl → σ2[j]? = (wipe σ vs)[j]?) (hl : σ2.length = (wipe σ vs).length) : wipe σ2 vs = wipe σ vs := by
  refine List.ext_getElem? fun i => ?_
  rw [wipe_length] at hl
  rw [wipe_at, wipe_at, hl]
  by_cases hi : i ∈ vs ∧ i < σ.length
  · rw [if_pos hi, if_pos hi]
  · rw [if_neg hi, if_neg hi]
    by_cases h1 : i ∈ vs
    · have : ¬ i < σ.length := fun z => hi ⟨h1, z⟩
      rw [List.getElem?_eq_none (by omega), List.getElem?_eq_none (by omega)]
    · rw [h i (fun z => h1 (hs i z)), wipe_at, if_neg (fun z => h1 z.1)]
/-! ### comprehensions -/
def tTs (C : Ctx) (X : Cx) (W : WX) (cs : Es) : TT := fun σ H Q => ∃ m ρ μ, RelM X m H μ ∧ Loc X m σ ρ ∧ Post X (xw X W σ) m H (testEs C cs ρ μ) fun b _ m' H' => Q b H'
theorem lc_step {α : Type} {m m1 : Mp} {H H1 : Hp} {Xc : String → Mem → Mp → Hp → Prop} {r : R α} {f : α → Mem → R (List D)} {g : List D → Mem → R D} {k : D → Mem → Mp → Hp → Prop} (h : Post X Xc m1 H1 ((r.bind f).calm.bind g) k) :
    Post X (fun _ _ _ _ => False) m H r fun y μ2 _ _ => Post X Xc m1 H1 ((f y μ2).calm.bind g) k := by
  cases r with
  | bad => exact h
  | ex c μ => exact h.elim
  | ok y μ => exact fun _ _ _ _ => h
theorem lc_read {t : G.T} {i : I} {e : E} {cs : Es} {vs : List Nat} (hs : ∀ j ∈ slotsT t, j ∈ vs) {σ : L2.St} {H : Hp} {Q : VK} (q : tE C X W (.lc t i e cs vs) σ H Q) : tLc (tI C X W i) (tBn X t) (tTs C X W0 cs) (tE C X W0 e) vs σ H Q := by
  obtain ⟨m, ρ, μ, rel, loc, p⟩ := q
  simp only [evalE] at p
  refine ⟨m, ρ, μ, rel, loc, p.bind.imp fun w μ1 m1 H1 x1 rel1 p1 J hJ D hD => ?_⟩
  generalize hel : (fun d μ2 => match bindT t d (wipeE ρ vs) with
        | some ρ1 => (testEs C cs ρ1 μ2).bind fun b μ3 => if b = true then (evalE C e ρ1 μ3).bind fun y μ4 => R.ok (some y) μ4 else R.ok none μ3
        | none => R.bad) = el at p1
  have loc1 := loc.mono x1.le
  have hap := rel1.out hD
  let Inv1 : Nat → Hp → Prop := fun i H => ∃ m' μ' acc ds, Ext m1 H1 m' H ∧ RelM X m' H μ' ∧ Apart m' D ∧ H D = some (.lst acc) ∧ Rps X.K m' acc ds ∧ i ≤ w.items.length ∧
    Post X (xw X W σ) m1 H1 ((lcL w.keep el C.fr (w.items.drop i) ds μ').calm.bind newL) fun d _ m' H' => ∀ v, Rp X.K m' v d → Q v H'
  refine ⟨fun i n H => n = w.items.length - i ∧ Inv1 i H, ⟨w.items.length, by simp, m1, μ1, [], [], Ext.junk (Ext.refl _ _) hD _, rel1.junk hap _, hap, upd_same, .nil, Nat.zero_le _, by simpa using p1⟩, ?_⟩
  rintro i n H ⟨rfl, m', μ', acc, ds, x', rel', ap, hD', rv, hi, pp⟩
  by_cases hlt : i < w.items.length
  · rw [List.drop_eq_getElem_cons hlt] at pp
    simp only [lcL] at pp
    by_cases hk : w.keep μ' = true
    · rw [if_pos hk] at pp
      obtain ⟨_, hgo⟩ := hJ i H m' μ' x' rel' hk
      obtain ⟨go, hy⟩ := hgo _ (List.getElem?_eq_getElem hlt)
      refine .inr ⟨go, Inv1 (i + 1), fun H' h' => ⟨w.items.length - (i + 1), by omega, rfl, h'⟩, fun x H' y => ?_⟩
      obtain ⟨m3, x3, rel3, rx⟩ := hy x H' y
      have p3 := lc_step (m := m3) (H := H') pp
      have ap3 := (x3.stays ap hD')
      have x13 := x'.trans x3
      have loc3 := (loc1.mono x13.le).wipe vs
      subst hel
      simp only [] at p3
      cases hb : bindT t w.items[i] (wipeE ρ vs) with
      | none => rw [hb] at p3; exact p3.elim
      | some ρ1 =>
        rw [hb] at p3
        refine ⟨m3, μ', wipeE ρ vs, _, ρ1, rel3, loc3, rx, hb, fun σ2 loc2 s2 l2 => ⟨wipe_same hs s2 l2, ?_⟩⟩
        refine ⟨m3, ρ1, μ', rel3, loc2, (PostG.weak p3).bind.imp fun b μ4 m4 H4 x4 rel4 p4 => ?_⟩
        cases b with
        | false =>
          have p5 := PostG.here p4 rel4
          obtain ⟨ap4, hD4⟩ := x4.stays ap3.1 ap3.2
          exact ⟨m4, μ4, acc, ds, x13.trans x4, rel4, ap4, hD4, (rv.mono x3.le).mono x4.le, hlt, p5⟩
        | true =>
          have p4 : Post X (xw X W0 σ2) m4 H4 ((evalE C e ρ1 μ4).bind fun y μ5 => R.ok (some y) μ5) _ := p4
          refine ⟨m4, ρ1, μ4, rel4, loc2.mono x4.le, p4.bind.imp fun y μ5 m5 H5 x5 rel5 p5 v rv5 => ?_⟩
          have p6 := PostG.here p5 rel5
          obtain ⟨ap5, hD5⟩ := (x4.trans x5).stays ap3.1 ap3.2
          simp only [] at p6
          split at p6
          · next hl =>
            obtain ⟨m6, rel6, x6, rv6⟩ := rel5.freeze C.fr rv5
            obtain ⟨ap6, hD6⟩ := x6.stays ap5 hD5
            have racc := (((rv.mono x3.le).mono x4.le).mono x5.le).mono x6.le
            refine ⟨acc, hD5, by rw [racc.len, ← line_eq]; exact hl, ?_⟩
            have e1 : (if C.fr = true then (frz1 y μ5).1 else y) = (if C.fr = true then frz1 y μ5 else (y, μ5)).1 := by split <;> rfl
            have e2 : (if C.fr = true then (frz1 y μ5).2 else μ5) = (if C.fr = true then frz1 y μ5 else (y, μ5)).2 := by split <;> rfl
            rw [e1, e2] at p6
            exact ⟨m6, _, _, _, (((x13.trans x4).trans x5).trans x6).junk hD _, rel6.junk ap6 _, ap6, upd_same, racc.app (.cons rv6 .nil), hlt, p6⟩
          · exact p6.elim
    · rw [if_neg hk] at pp
      exact pp.elim
  · have e0 : i = w.items.length := by omega
    subst e0
    rw [List.drop_length] at pp
    simp only [lcL] at pp
    by_cases hk : w.keep μ' = true
    · rw [if_pos hk] at pp
      obtain ⟨hst, _⟩ := hJ _ H m' μ' x' rel' hk
      refine .inl ⟨hst rfl, ?_⟩
      have eH : upd H D (.lst acc) = H := by
        funext b
        by_cases z : b = D
        · rw [z, upd_same, hD']
        · rw [upd_ne z]
      have rel2 := rel'.adopt (o := .lst acc) (c := .lst ds) ap ⟨acc, upd_same, ap.2, rv.mono (rel'.le_add D)⟩
      have x2 := x'.adopt rel' hD (.lst acc)
      rw [eH] at rel2 x2
      exact pp _ _ x2 rel2 _ (.ref (if_pos rfl))
    · rw [if_neg hk] at pp
      exact pp.elim
end
end G
/-! The G machine over the hand layer: every compiled expression is served. -/
set_option Elab.async false
set_option linter.all false
set_option maxRecDepth 100000
namespace G
open PySem PySem.Spec L2
section
variable {X : Cx} {T : Tab} {C : Ctx} {W : WX}
theorem t_ite {c a b : Expr} {i j k : E} {pos : Pos} (hc : PT X c (tT C X W i)) (ha : PT X a (tT C X W j)) (hb : PT X b (tT C X W k)) : PT X (.IfExp c a b pos) (tT C X W (.ite i j k)) := by
  refine ⟨fun pins s σ H Q I q => ?_⟩
  obtain ⟨m, ρ, μ, rel, loc, p⟩ := q
  simp only [evalE] at p
  refine PyProof.Rows.isTrue_IfExp (thn (hc.run pins s σ H (fun t H1 => if t = true then tT C X W j σ H1 Q else tT C X W k σ H1 Q) I ⟨m, ρ, μ, rel, loc, p.bind.imp fun x μ1 m1 H1 x1 rel1 p1 => ?_⟩) fun d s1 ⟨H1, I1, q1⟩ => ?_)
  · cases e : truth μ1 x with
    | none => rw [e] at p1; exact p1.elim
    | some t =>
      rw [e] at p1
      refine ⟨t, rfl, ?_⟩
      cases t with
      | true => exact ⟨m1, ρ, μ1, rel1, loc.mono x1.le, p1⟩
      | false => exact ⟨m1, ρ, μ1, rel1, loc.mono x1.le, p1⟩
  · cases d with
    | true => exact ha.run pins s1 σ H1 Q I1 q1
    | false => exact hb.run pins s1 σ H1 Q I1 q1
/-- both readings -/
def Both (X : Cx) (C : Ctx) (W : WX) (e : Expr) (i : E) : Prop := PE X e (tE C X W i) ∧ PT X e (tT C X W i)
theorem both_of {e : Expr} {i : E} (h : PE X e (tE C X W i)) (he : ∀ whole, isTrue e X.env whole = (do let v ← whole; standAt e.pos; holding [v] (truthy v))) : Both X C W e i := ⟨h, t_val h he⟩
theorem cop_eq {op : CmpOp} {o : Cmp} (h : cCop op = some o) : op = copOf o := by
  cases op <;> cases h <;> rfl
theorem op_eq {op : Operator} {o : Op} (h : cOp op = some o) : op = opOf o := by
  cases op <;> cases h <;> rfl
theorem bool_ok {r : Expr → Option E} (hr : ∀ e i, r e = some i → Both X C W e i) {op : BoolOp} {pos : Pos} : ∀ {vs : List Expr} {i : E}, cBool r op vs = some i → PE X (.BoolOp op vs pos) (tE C X W i) ∧ PW X (.BoolOp op vs pos) (tT C X W i)
  | [], _, h => by cases h
  | [e], i, h => by
    have h : r e = some i := h
    obtain ⟨q1, q2⟩ := hr _ _ h
    refine ⟨pe_one q1, ?_⟩
    cases op with
    | And => exact pw_and1 q2
    | Or => exact pw_or1 q2
  | e :: f :: es, i, h => by
    unfold cBool at h
    split at h
    · next a b ha hb =>
      cases h
      obtain ⟨q1, q2⟩ := hr _ _ ha
      obtain ⟨q3, q4⟩ := bool_ok hr (pos := pos) hb
      cases op with
      | And => exact ⟨e_and q1 q3, w_and q2 q4⟩
      | Or => exact ⟨e_or q1 q3, w_or q2 q4⟩
    · cases h
theorem cmp_ok (hu : X.A.units + 64 < cLine) {r : Expr → Option E} (hr : ∀ e i, r e = some i → Both X C W e i) {a : Expr} {ops : List CmpOp} {cs : List Expr} {i : E} {pos : Pos} (h : cCmp r a ops cs = some i) : Both X C W (.Compare a ops cs pos) i := by
  unfold cCmp at h
  split at h
  · next op b =>
    split at h
    · cases h
    · next hm =>
      split at h
      · next o x y ho hx hy =>
        cases h
        have e := cop_eq ho
        subst e
        have hm : behindInMarks (copOf o) b = false := by simpa using hm
        exact ⟨e_cmp hu (hr _ _ hx).1 (hr _ _ hy).1 hm, t_cmp hu (hr _ _ hx).1 (hr _ _ hy).1 hm⟩
      · cases h
  · next op op' b c =>
    split at h
    · cases h
    · next hm =>
      split at h
      · next o o' x y z ho ho' hx hy hz =>
        cases h
        have e := cop_eq ho
        subst e
        have e := cop_eq ho'
        subst e
        have hm : lastMarks [copOf o, copOf o'] [b, c] = false := by
          simp only [Bool.or_eq_true, not_or, Bool.not_eq_true] at hm
          unfold lastMarks
          unfold lastMarks
          exact hm.2
        exact ⟨e_chain hu (hr _ _ hx).1 (hr _ _ hy).1 (hr _ _ hz).1 hm, t_chain hu (hr _ _ hx).1 (hr _ _ hy).1 (hr _ _ hz).1 hm⟩
      · cases h
  · cases h
/-- f(..) -/
theorem call_ok (ok : Ok T C X W) {r : Expr → Option E} (hr : ∀ e i, r e = some i → PE X e (tE C X W i)) {x : PySem.Str} {args : List Expr} {i : E} {p pos : Pos} (h : cCall T X.env.scope r x args = some i) : PE X (.Call (.Name x p) args [] pos) (tE C X W i) := by
  unfold cCall at h
  split at h
  · cases h
  · next ho =>
    have ho : odd x = false ∧ isGl X.env.scope x = true := by
      cases h1 : odd x <;> cases h2 : isGl X.env.scope x <;> simp_all
    obtain ⟨ho, hg⟩ := ho
    have hg := isGl_ok hg
    split at h
    · next ex =>
      subst ex
      split at h
      · next a t =>
        split at h
        · next hp =>
          split at h
          · next i1 ty h1 h2 =>
            cases h
            exact isi_ok ok hg (hr _ _ h1) hp h2
          · cases h
        · cases h
      · cases h
    · split at h
      · next f hf =>
        simp only [Option.map_eq_some_iff] at h
        obtain ⟨is, h1, rfl⟩ := h
        obtain ⟨a, q1, q2, q3⟩ := ok.fns _ _ hf
        cases args with
        | nil =>
          cases h1
          exact e_call0 q3 ok.takes hg q1 q2 (odd_ok ho).1
        | cons e es =>
          have hp := cEs_plain h1
          have hp2 := hp
          simp only [plains, List.all_cons, Bool.and_eq_true] at hp2
          exact e_call q3 ok.takes hg q1 q2 (odd_ok ho).1 (args_ok hr h1) (star_one hp2.1) (star_any hp2.2)
      · split at h
        · next c hc =>
          rw [ok.cls] at hc
          cases hc
        · split at h
          · next b e es hb =>
            simp only [Option.map_eq_some_iff] at h
            obtain ⟨is, h1, rfl⟩ := h
            exact blt_ok ok hb hg ho (args_ok hr h1) (cEs_plain h1)
          · cases h
theorem meth_ok (ok : Ok T C X W) {r : Expr → Option E} (hr : ∀ e i, r e = some i → PE X e (tE C X W i)) {o : Expr} {m : PySem.Str} {args : List Expr} {i : E} {apos pos : Pos} (hs : noSuper o = true) (h : cMeth T r o m args (apos.endLine == pos.line) = some i) : PE X (.Call (.Attribute o m apos) args [] pos) (tE C X W i) := by
  unfold cMeth at h
  rw [ok.mth] at h
  rw [if_neg (show ¬ (([] : List PySem.Str).contains m = true) from by simp)] at h
  split at h
  · next hl =>
    rw [Bool.and_eq_true] at hl
    split at h
    · next b i1 es hb h1 h2 =>
      cases h
      exact bm_ok ok.hu hb (hr _ _ h1) ⟨r, hr, h2⟩ (base_ok hs _) (by simpa using hl.2) hl.1
    · cases h
  · cases h
/-- inside a block -/
theorem blk_ok (ok : Ok T C X W) (s : Shared) (H : Hp) (scope : Scope) (cenv : PySem.Env) (fp : List Addr) : Ok T C (X.blk s H scope cenv fp) W0 :=
  ⟨ok.calm, ok.nd, ok.lib, ok.unit, ok.gd, fun u s' h => by
    obtain ⟨a, B, sI, pins, σ, H, cls, d, _, _, _, _, _, _, _, _, w⟩ := h
    exact w, ok.con, ok.fns, ok.cls, ok.mth⟩
theorem own_ok {N : List PySem.Str} : ∀ {ns : List (PySem.Str × NameKind)}, ∀ p ∈ ownOf N ns, N[p.2]? = some p.1
  | [], p, h => by cases h
  | (x, k) :: ns, p, h => by
    unfold ownOf at h
    split at h
    · split at h
      · next i hi =>
        rcases List.mem_cons.mp h with h | h
        · subst h
          exact slot_at hi
        · exact own_ok p h
      · exact own_ok p h
    · split at h
      · next i hi =>
        rcases List.mem_cons.mp h with h | h
        · subst h
          exact slot_at hi
        · exact own_ok p h
      · exact own_ok p h
    · exact own_ok p h
theorem tests_ok {r : Expr → Option E} (hr : ∀ e i, r e = some i → Both X C W e i) {ifs : List Expr} {cs : Es} (h : cEs r ifs = some cs) (hl : ifs.length ≤ 1) : PTs X ifs (tTs C X W cs) := by
  cases ifs with
  | nil =>
    cases h
    refine ⟨fun pins s σ H Q I q => pts_nil.run pins s σ H Q I ?_⟩
    obtain ⟨m, ρ, μ, rel, loc, p⟩ := q
    simp only [testEs] at p
    exact PostG.here p rel
  | cons c r2 =>
    cases r2 with
    | cons _ _ => simp at hl
    | nil =>
      unfold cEs at h
      split at h
      · split at h
        · next i hi =>
          cases h
          refine ⟨fun pins s σ H Q I q => (pts_one (hr _ _ hi).2).run pins s σ H Q I ?_⟩
          obtain ⟨m, ρ, μ, rel, loc, p⟩ := q
          simp only [testEs] at p
          refine ⟨m, ρ, μ, rel, loc, p.bind.imp fun x μ1 m1 H1 x1 rel1 p1 => ?_⟩
          cases e : truth μ1 x with
          | none => rw [e] at p1; exact p1.elim
          | some t =>
            rw [e] at p1
            cases t with
            | true => exact ⟨true, rfl, PostG.here p1 rel1⟩
            | false => exact ⟨false, rfl, PostG.here p1 rel1⟩
        · cases h
      · cases h
theorem fold_ok {e : Expr} (h : plainE e = true) (env : PySem.Env) (x : Value) : foldedSetIterable e env x = pure x := by
  cases e <;> first | rfl | cases h
/-- the claim at a depth -/
def Served (T : Tab) (C : Ctx) (r : Scope → Expr → Option E) (N : List PySem.Str) : Prop := ∀ (X : Cx) (W : WX) (e : Expr) (i : E), Ok T C X W → X.N = N → r X.env.scope e = some i → Both X C W e i
theorem targ_blk {s : Shared} {H : Hp} {scope : Scope} {cl : List (PySem.Str × Addr)} {Cc : Addr} {fp : List Addr} {x : PySem.Str} (h : isLoc scope x = true) :
    L2.Loc (X.blk s H scope (compEnvC scope cl Cc X.env) fp).env.scope x ∧ ((X.blk s H scope (compEnvC scope cl Cc X.env) fp).fn x = true ∨ (X.blk s H scope (compEnvC scope cl Cc X.env) fp).env.scope.names.lookup x = some .local) := by
  unfold isLoc at h
  split at h
  · next e =>
    have q := lookup_relS_keep (sc := X.env.scope) (by decide) e
    exact ⟨.inl q, .inr q⟩
  · next e =>
    have q := lookup_relS_keep (sc := X.env.scope) (by decide) e
    exact ⟨.inr q, .inl (by show (scope.names.lookup x == some .cell) = true; rw [e]; rfl)⟩
  · cases h
/-- what a comprehension is made of -/
structure LcP (X : Cx) (C : Ctx) (W : WX) (tg it elt : Expr) (ifs : List Expr) (scope : Scope) (t : G.T) (i : I) (x : E) (cs : Es) (own : List (PySem.Str × Nat)) : Prop where
  iter : PI X tg it (tI C X W i)
  blk : BlkOk X.N X.env.scope scope own
  tg : ∀ (s : Shared) (H : Hp) (Cc : Addr) (cl : List (PySem.Str × Addr)) (fp : List Addr), PG (X.blk s H scope (compEnvC scope cl Cc X.env) fp) tg (tBn X t)
  ifs : ∀ (s : Shared) (H : Hp) (Cc : Addr) (cl : List (PySem.Str × Addr)) (fp : List Addr), PTs (X.blk s H scope (compEnvC scope cl Cc X.env) fp) ifs (tTs C X W0 cs)
  elt : ∀ (s : Shared) (H : Hp) (Cc : Addr) (cl : List (PySem.Str × Addr)) (fp : List Addr), PE (X.blk s H scope (compEnvC scope cl Cc X.env) fp) elt (tE C X W0 x)
  sl : ∀ j ∈ slotsT t, j ∈ own.map (·.2)
  plain : plainE it = true
theorem lc_parts {r : Scope → Expr → Option E} {N : List PySem.Str} (ih : Served T C r N) (ok : Ok T C X W) (hN : X.N = N) {elt : Expr} {gens : List Comprehension} {scope : Scope} {pos : Pos} {i : E} (h : stepE T N r X.env.scope (.ListComp elt gens scope pos) = some i) :
    ∃ tg it ifs t j x cs own, gens = [⟨tg, it, ifs, 0⟩] ∧ i = .lc t j x cs (own.map (·.2)) ∧ LcP X C W tg it elt ifs scope t j x cs own := by
  subst hN
  have hr : ∀ e i, r X.env.scope e = some i → Both X C W e i := fun e i h => ih X W e i ok rfl h
  have hr1 : ∀ e i, r X.env.scope e = some i → PE X e (tE C X W i) := fun e i h => (hr e i h).1
  simp only [stepE] at h
  split at h
  · next tg it ifs =>
    split at h
    · next hc =>
      rw [Bool.and_eq_true] at hc
      obtain ⟨hc, hl⟩ := hc
      split at h
      · next i1 t cs x h1 h2 h3 h4 =>
        split at h
        · next hs =>
          cases h
          have hsl : ∀ j ∈ slotsT t, j ∈ (ownOf X.N scope.names).map (·.2) := fun j hj => by
            have := List.all_eq_true.mp hs j hj
            simpa using this
          have hit : plainE it = true := by
            unfold cI at h1
            split at h1
            · next q => exact q
            · cases h1
          refine ⟨tg, it, ifs, t, i1, x, cs, _, rfl, rfl, iter_ok ok hr1 h1, blkOk_by hc, ?_, ?_, ?_, hsl, hit⟩
          · intro s H Cc cl fp
            exact n_ok (X := X.blk s H scope (compEnvC scope cl Cc X.env) fp) ok.calm ok.nd (fun x hx => targ_blk hx) h2
          · intro s H Cc cl fp
            exact tests_ok (X := X.blk s H scope (compEnvC scope cl Cc X.env) fp) (fun e i h => ih _ _ e i (blk_ok ok s H scope _ fp) rfl h) h3 (by simpa using hl)
          · intro s H Cc cl fp
            exact (ih (X.blk s H scope (compEnvC scope cl Cc X.env) fp) W0 elt x (blk_ok ok s H scope _ fp) rfl h4).1
        · cases h
      · cases h
    · cases h
  · cases h
theorem step_ok {r : Scope → Expr → Option E} {N : List PySem.Str} (ih : Served T C r N) : Served T C (stepE T N r) N := by
  intro X W e i ok hN h
  subst hN
  have hr : ∀ e i, r X.env.scope e = some i → Both X C W e i := fun e i h => ih X W e i ok rfl h
  have hr1 : ∀ e i, r X.env.scope e = some i → PE X e (tE C X W i) := fun e i h => (hr e i h).1
  have hu := ok.hu
  cases e with
  | Name x pos => exact both_of (name_ok ok h) fun _ => rfl
  | Constant c k pos => exact both_of (const_ok h) fun _ => rfl
  | BinOp a op b pos =>
    simp only [stepE] at h
    split at h
    · next o x y ho hx hy =>
      cases h
      have e := op_eq ho
      subst e
      exact both_of (e_bin (hr1 _ _ hx) (hr1 _ _ hy)) fun _ => rfl
    · cases h
  | UnaryOp op a pos =>
    simp only [stepE] at h
    split at h
    · simp only [Option.map_eq_some_iff] at h
      obtain ⟨j, h1, rfl⟩ := h
      exact both_of (e_neg (hr1 _ _ h1)) fun _ => rfl
    · simp only [Option.map_eq_some_iff] at h
      obtain ⟨j, h1, rfl⟩ := h
      exact ⟨e_not (hr1 _ _ h1), t_not (hr _ _ h1).2⟩
    · cases h
  | BoolOp op vs pos =>
    obtain ⟨q1, q2⟩ := bool_ok hr (pos := pos) h
    exact ⟨q1, q2.pt⟩
  | IfExp c a b pos =>
    simp only [stepE] at h
    split at h
    · next x y z hx hy hz =>
      cases h
      exact ⟨e_ite (hr _ _ hx).2 (hr1 _ _ hy) (hr1 _ _ hz), t_ite (hr _ _ hx).2 (hr _ _ hy).2 (hr _ _ hz).2⟩
    · cases h
  | Compare a ops cs pos => exact cmp_ok hu hr h
  | Tuple es k pos =>
    simp only [stepE, Option.map_eq_some_iff] at h
    obtain ⟨is, h1, rfl⟩ := h
    exact both_of (e_tup (args_ok hr1 h1)) fun _ => rfl
  | List es pos =>
    simp only [stepE, Option.map_eq_some_iff] at h
    obtain ⟨is, h1, rfl⟩ := h
    exact both_of (e_lst (args_ok hr1 h1)) fun _ => rfl
  | Dict ks vs pos =>
    simp only [stepE] at h
    split at h
    · next h15 =>
      simp only [Option.map_eq_some_iff] at h
      obtain ⟨ps, h1, rfl⟩ := h
      exact both_of (e_dict hr1 h1 h15) fun _ => rfl
    · cases h
  | Subscript a j pos =>
    simp only [stepE] at h
    split at h
    · split at h
      · next x y z hx hy hz =>
        cases h
        exact both_of (e_slc (hr1 _ _ hx) (o_ok hr1 hy) (o_ok hr1 hz)) fun _ => rfl
      · cases h
    · split at h
      · next hp =>
        split at h
        · next x y hx hy =>
          cases h
          exact both_of (e_idx hu (hr1 _ _ hx) (hr1 _ _ hy) hp) fun _ => rfl
        · cases h
      · cases h
  | ListComp elt gens scope pos =>
    obtain ⟨tg, it, ifs, t, j, x, cs, own, rfl, rfl, L⟩ := lc_parts ih ok rfl h
    exact both_of (imE (pe_lc ok.calm ok.nd L.iter L.blk L.tg L.ifs L.elt (fold_ok L.plain X.env)) fun σ H Q q => lc_read L.sl q) fun _ => rfl
  | Call f args kws pos =>
    simp only [stepE] at h
    split at h
    · split at h
      · exact both_of (call_ok ok hr1 h) fun _ => rfl
      · split at h
        · next hs => exact both_of (meth_ok ok hr1 hs h) fun _ => rfl
        · cases h
      · cases h
    · cases h
  | Attribute o f pos =>
    simp only [stepE, ok.cls] at h
    cases h
  | _ => cases h
theorem cE_ok {N : List PySem.Str} : ∀ n : Nat, Served T C (cE T N n) N
  | 0 => fun X W e i ok hN h => by cases h
  | n + 1 => fun X W e i ok hN h => step_ok (cE_ok n) X W e i ok hN h
end
end G
/-! The G machine over the hand layer: every compiled statement is served. -/
set_option Elab.async false
set_option linter.all false
set_option maxRecDepth 100000
namespace G
open PySem PySem.Spec L2
section
variable {X : Cx} {T : Tab} {C : Ctx} {W : WX}
/-- behind a statement of the machine -/
def PostS (X : Cx) (W : WX) (m : Mp) (H : Hp) (o : Out) (D : Ends) : Prop := match o with
  | .nx ρ μ => ∀ m' H' σ', Ext m H m' H' → RelM X m' H' μ → Loc X m' σ' ρ → D.nx σ' H'
  | .rt d μ => ∀ m' H' v, Ext m H m' H' → RelM X m' H' μ → Rp X.K m' v d → D.rt v H'
  | .bk ρ μ => ∀ m' H' σ', Ext m H m' H' → RelM X m' H' μ → Loc X m' σ' ρ → D.bk σ' H'
  | .ct ρ μ => ∀ m' H' σ', Ext m H m' H' → RelM X m' H' μ → Loc X m' σ' ρ → D.ct σ' H'
  | .ex c ρ μ => ∀ m' H' σ', Ext m H m' H' → RelM X m' H' μ → Loc X m' σ' ρ → ∀ A, cl X c = some A → W (.ref A) none σ' H'
  | .bad => False
theorem PostS.on {m m1 : Mp} {H H1 : Hp} {o : Out} {D : Ends} (h : PostS X W m H o D) (x : Ext m H m1 H1) : PostS X W m1 H1 o D := by
  cases o with
  | nx ρ μ => exact fun m' H' σ' x' => h m' H' σ' (x.trans x')
  | rt d μ => exact fun m' H' v x' => h m' H' v (x.trans x')
  | bk ρ μ => exact fun m' H' σ' x' => h m' H' σ' (x.trans x')
  | ct ρ μ => exact fun m' H' σ' x' => h m' H' σ' (x.trans x')
  | ex c ρ μ => exact fun m' H' σ' x' => h m' H' σ' (x.trans x')
  | bad => exact h
theorem of_ok {m : Mp} {H : Hp} {r : R D} {ρ : Env} {f : D → Mem → Out} {Ds : Ends} {σ : L2.St} (h : PostS X W m H (Out.of r ρ f) Ds) (loc : Loc X m σ ρ) : Post X (xw X W σ) m H r fun d μ1 m1 H1 => PostS X W m1 H1 (f d μ1) Ds := by
  cases r with
  | bad => exact h
  | ex c μ => exact fun m1 H1 x1 rel1 => h m1 H1 σ x1 rel1 (loc.mono x1.le)
  | ok d μ => exact fun m1 H1 x1 rel1 => PostS.on h x1
theorem test_ok {m : Mp} {H : Hp} {r : R D} {ρ : Env} {f : Bool → Mem → Out} {Ds : Ends} {σ : L2.St} (h : PostS X W m H (Out.test r ρ f) Ds) (loc : Loc X m σ ρ) : Post X (xw X W σ) m H r fun d μ1 m1 H1 => ∃ b, truth μ1 d = some b ∧ PostS X W m1 H1 (f b μ1) Ds := by
  cases r with
  | bad => exact h
  | ex c μ => exact fun m1 H1 x1 rel1 => h m1 H1 σ x1 rel1 (loc.mono x1.le)
  | ok d μ =>
    intro m1 H1 x1 rel1
    unfold Out.test at h
    simp only [] at h
    split at h
    · next b e => exact ⟨b, e, PostS.on h x1⟩
    · exact h.elim
theorem walk_ok {m : Mp} {H : Hp} {r : R Walk} {ρ : Env} {f : Walk → Mem → Out} {Ds : Ends} {σ : L2.St} (h : PostS X W m H (Out.walk r ρ f) Ds) (loc : Loc X m σ ρ) : Post X (xw X W σ) m H r fun d μ1 m1 H1 => PostS X W m1 H1 (f d μ1) Ds := by
  cases r with
  | bad => exact h
  | ex c μ => exact fun m1 H1 x1 rel1 => h m1 H1 σ x1 rel1 (loc.mono x1.le)
  | ok d μ => exact fun m1 H1 x1 rel1 => PostS.on h x1
def tS (C : Ctx) (X : Cx) (W : WX) (s : S) : TS := fun Ds σ H => ∃ m ρ μ, RelM X m H μ ∧ Loc X m σ ρ ∧ PostS X W m H (exec C s ρ μ) Ds
def tSs (C : Ctx) (X : Cx) (W : WX) (s : Ss) : TS := fun Ds σ H => ∃ m ρ μ, RelM X m H μ ∧ Loc X m σ ρ ∧ PostS X W m H (execs C s ρ μ) Ds
/-! ### blocks of statements -/
theorem ss_nil : PSs X [] (tSs C X W .nil) := by
  refine imSs pss_nil fun Ds σ H q => ?_
  obtain ⟨m, ρ, μ, rel, loc, p⟩ := q
  simp only [execs] at p
  exact p m H σ (Ext.refl _ _) rel loc
theorem seq_ok {m : Mp} {H : Hp} {o : Out} {f : Env → Mem → Out} {Ds : Ends} (h : PostS X W m H (match o with
    | .nx ρ1 μ1 => f ρ1 μ1
    | o => o) Ds) : PostS X W m H o { Ds with nx := fun σ' H' => ∃ m' ρ μ, RelM X m' H' μ ∧ Loc X m' σ' ρ ∧ PostS X W m' H' (f ρ μ) Ds } := by
  cases o with
  | nx ρ μ => exact fun m' H' σ' x rel loc => ⟨m', ρ, μ, rel, loc, PostS.on h x⟩
  | rt d μ => exact h
  | bk ρ μ => exact h
  | ct ρ μ => exact h
  | ex c ρ μ => exact h
  | bad => exact h
theorem ss_cons {s : Stmt} {ss : List Stmt} {i : S} {is : Ss} (h1 : PS X s (tS C X W i)) (h2 : PSs X ss (tSs C X W is)) : PSs X (s :: ss) (tSs C X W (.cons i is)) := by
  refine imSs (pss_cons h1 h2) fun Ds σ H q => ?_
  obtain ⟨m, ρ, μ, rel, loc, p⟩ := q
  simp only [execs] at p
  exact ⟨m, ρ, μ, rel, loc, seq_ok p⟩
theorem ss_ok {r : Stmt → Option S} (hr : ∀ s i, r s = some i → PS X s (tS C X W i)) : ∀ {ss : List Stmt} {is : Ss}, cSs r ss = some is → PSs X ss (tSs C X W is)
  | [], _, h => by
    cases h
    exact ss_nil
  | s :: ss, is, h => by
    unfold cSs at h
    split at h
    · next a ha =>
      simp only [Option.map_eq_some_iff] at h
      obtain ⟨js, h1, rfl⟩ := h
      exact ss_cons (hr _ _ ha) (ss_ok hr h1)
    · cases h
/-! ### stores -/
def rSt (X : Cx) (fr : Bool) : TSet := fun o i v H Q => ∃ m μ od id vd μ', RelM X m H μ ∧ Rp X.K m o od ∧ Rp X.K m i id ∧ Rp X.K m v vd ∧ store fr od id vd μ = some μ' ∧ ∀ m' H', Ext m H m' H' → RelM X m' H' μ' → Q H'
theorem set_ok (hu : X.A.units + 64 < cLine) {fr : Bool} : PSet X (rSt X fr) := by
  intro pins s σ H o i v ov iv u Q I ro ri rv h
  obtain ⟨m, μ, od, id, vd, μ', rel, r1, r2, r3, e, q⟩ := h
  unfold store at e
  cases od with
  | ref k =>
    simp only [] at e
    split at e
    · next es ek =>
      split at e
      · next n =>
        obtain ⟨m1, rel1, x1, r4⟩ := rel.freeze fr r3
        split at e
        · next ds e2 =>
          split at e
          · next j e3 =>
            cases e
            obtain ⟨l, rfl, hk, xs, h1, h2, h3⟩ := rel1.at_ (r1.mono x1.le) e2
            obtain ⟨rel2, x2⟩ := rel1.wr (o := .lst (xs.set j v)) hk h2 (c := .lst (ds.set j (if fr then frz1 vd μ else (vd, μ)).1)) ⟨_, upd_same, h2, h3.set j r4⟩
            cases r2
            rw [← h3.len, place_ix] at e3
            exact set_list pins s σ H _ _ v ov iv u Q I ro ri rv ⟨l, xs, n, j, rfl, rfl, h1, e3, q m1 _ (x1.trans x2) rel2⟩
          · cases e
        · cases e
      · cases e
    · next kvs ek =>
      split at e
      · next y ey =>
        split at e
        · next hl =>
          cases e
          obtain ⟨l, rfl, hk, ys, h1, h2, h3⟩ := rel.at_ r1 ek
          have hy := keyOf_V r2 ey
          subst hy
          obtain ⟨rel2, x2⟩ := rel.wr (o := .dK (putK ys (kk y) v)) hk h2 (c := .dict (kPut y vd kvs)) ⟨_, upd_same, h2, kPut_put r3 (keyOf_B r2 ey) h3⟩
          cases ro
          refine d_setItem (by omega) I (.inl ⟨ys, kk y, h1, rfl, by rw [h3.length, ← line_eq]; exact hl, rfl⟩) ri rv fun s' I' => ⟨_, I', q m _ x2 rel2⟩
        · cases e
      · cases e
    · cases e
  | _ => cases e
/-- targets -/
def onlyNx (Q : L2.St → Hp → Prop) : Ends := ⟨Q, fun _ _ => False, fun _ _ => False, fun _ _ => False⟩
def tA (C : Ctx) (X : Cx) (W : WX) (t : G.T) : TG := fun v σ H Q => ∃ m μ ρ d, RelM X m H μ ∧ Loc X m σ ρ ∧ Rp X.K m v d ∧ PostS X W m H (asgT C t d ρ μ) (onlyNx Q)
def tAs (C : Ctx) (X : Cx) (W : WX) (ts : Ts) : TGs := fun vs σ H Q => ∃ m μ ρ ds, RelM X m H μ ∧ Loc X m σ ρ ∧ Rps X.K m vs ds ∧ PostS X W m H (asgTs C ts ds ρ μ) (onlyNx Q)
theorem a_name {x : PySem.Str} {i : Nat} {pos : Pos} (nd : X.N.Nodup) (hi : slotAt x X.N 0 = some i) (hl : L2.Loc X.env.scope x) (hf : X.fn x = true ∨ X.env.scope.names.lookup x = some .local) : PG X (.Name x pos) (tA C X W (.name i)) := by
  refine imG (pg_name nd (slot_at hi) hl hf) fun v σ H Q q => ?_
  obtain ⟨m, μ, ρ, d, rel, loc, r, p⟩ := q
  simp only [asgT] at p
  exact p m H _ (Ext.refl _ _) rel (loc.set r i)
theorem a_sub (ok : Ok T C X W) {o i : Expr} {x y : E} {pos : Pos} (ho : PE X o (tE C X W x)) (hi : PE X i (tE C X W y)) (hp : plainE i = true) : PG X (.Subscript o i pos) (tA C X W (.sub x y)) := by
  refine imG (pg_sub ho hi (set_ok ok.hu (fr := C.fr)) ?_) fun v σ H Q q => ?_
  · intro v
    cases i <;> first | rfl | cases hp
  · obtain ⟨m, μ, ρ, d, rel, loc, r, p⟩ := q
    simp only [asgT] at p
    refine ⟨m, ρ, μ, rel, loc, (of_ok p loc).imp fun z μ1 m1 H1 x1 rel1 p1 w rw => ?_⟩
    refine ⟨m1, ρ, μ1, rel1, loc.mono x1.le, (of_ok p1 (loc.mono x1.le)).imp fun j μ2 m2 H2 x2 rel2 p2 u ru => ?_⟩
    cases e : store C.fr z j d μ2 with
    | none => rw [e] at p2; exact p2.elim
    | some μ3 =>
      rw [e] at p2
      exact ⟨m2, μ2, z, j, d, μ3, rel2, rw.mono x2.le, ru, (r.mono x1.le).mono x2.le, e, fun m' H' x' rel' => p2 m' H' σ x' rel' (((loc.mono x1.le).mono x2.le).mono x'.le)⟩
theorem as_ok {rt : Expr → Option G.T} (hrt : ∀ e t, rt e = some t → PG X e (tA C X W t)) : ∀ {es : List Expr} {ts : Ts}, cTs rt es = some ts → PGs X es (tAs C X W ts) ∧ plains es = true ∧ lenTs ts = es.length
  | [], _, h => by
    cases h
    refine ⟨imGs pgs_nil fun v σ H Q q => ?_, rfl, rfl⟩
    obtain ⟨m, μ, ρ, ds, rel, loc, r, p⟩ := q
    cases r with
    | nil =>
      simp only [asgTs] at p
      exact ⟨rfl, p m H σ (Ext.refl _ _) rel loc⟩
    | cons _ _ =>
      simp only [asgTs] at p
      exact p.elim
  | e :: es, ts, h => by
    unfold cTs at h
    split at h
    · next hp =>
      split at h
      · next a b ha hb =>
        cases h
        obtain ⟨q1, q2, q3⟩ := as_ok hrt hb
        refine ⟨imGs (pgs_cons (hrt _ _ ha) q1 (by rw [asg_one hp]; rfl)) fun v σ H Q q => ?_, by simpa [plains, hp] using q2, by simp [lenTs, q3]⟩
        obtain ⟨m, μ, ρ, ds, rel, loc, r, p⟩ := q
        cases r with
        | nil =>
          simp only [asgTs] at p
          exact p.elim
        | @cons v vs d ds r1 r2 =>
          simp only [asgTs] at p
          refine ⟨v, vs, rfl, m, μ, ρ, d, rel, loc, r1, ?_⟩
          cases eo : asgT C a d ρ μ with
          | nx ρ1 μ1 =>
            rw [eo] at p
            exact fun m' H' σ' x' rel' loc' => ⟨m', μ1, ρ1, ds, rel', loc', r2.mono x'.le, PostS.on p x'⟩
          | rt d μ => rw [eo] at p; exact fun m' H' v x r rr => p m' H' v x r rr
          | bk ρ μ => rw [eo] at p; exact fun m' H' v x r rr => p m' H' v x r rr
          | ct ρ μ => rw [eo] at p; exact fun m' H' v x r rr => p m' H' v x r rr
          | ex c ρ μ => rw [eo] at p; exact p
          | bad => rw [eo] at p; exact p
      · cases h
    · cases h
theorem t_ok (ok : Ok T C X W) {r : Expr → Option E} (hr : ∀ e i, r e = some i → PE X e (tE C X W i)) (hl : ∀ x, isLoc X.env.scope x = true → L2.Loc X.env.scope x ∧ (X.fn x = true ∨ X.env.scope.names.lookup x = some .local)) :
    ∀ {n : Nat} {e : Expr} {t : G.T}, cTg X.N X.env.scope r n e = some t → PG X e (tA C X W t)
  | 0, _, _, h => by cases h
  | n + 1, e, t, h => by
    unfold cTg at h
    split at h
    · split at h
      · next hx =>
        simp only [Option.map_eq_some_iff] at h
        obtain ⟨i, h1, rfl⟩ := h
        exact a_name ok.nd h1 (hl _ hx).1 (hl _ hx).2
      · cases h
    · simp only [Option.map_eq_some_iff] at h
      obtain ⟨ts, h1, rfl⟩ := h
      obtain ⟨q1, q2, q3⟩ := as_ok (fun e t he => t_ok ok hr hl (n := n) he) h1
      refine imG (pg_tup ok.calm q1 (asg_len q2) (asg_none q2)) fun v σ H Q q => ?_
      obtain ⟨m, μ, ρ, d, rel, loc, rv, p⟩ := q
      simp only [asgT] at p
      cases d with
      | tup ds =>
        simp only [getT] at p
        split at p
        · next hlen =>
          obtain ⟨a, xs, rfl, h3, h4⟩ := rel.getT rv
          exact ⟨a, xs, rfl, h3, by rw [h4.len, hlen, q3], m, μ, ρ, ds, rel, loc, h4, p⟩
        · exact p.elim
      | _ => exact p.elim
    · split at h
      · next hp =>
        split at h
        · next a b ha hb =>
          cases h
          exact a_sub ok (hr _ _ ha) (hr _ _ hb) hp
        · cases h
      · cases h
    · cases h
/-! ### single statements -/
theorem s_expr {e : Expr} {i : E} {pos : Pos} (he : PE X e (tE C X W i)) (hc : isComp e = false) : PS X (.Expr e pos) (tS C X W (.expr i)) := by
  refine imS (ps_expr he ?_) fun Ds σ H q => ?_
  · cases e <;> first | rfl | cases hc
  · obtain ⟨m, ρ, μ, rel, loc, p⟩ := q
    simp only [exec] at p
    exact ⟨m, ρ, μ, rel, loc, (of_ok p loc).imp fun x μ1 m1 H1 x1 rel1 p1 v rv => p1 m1 H1 σ (Ext.refl _ _) rel1 (loc.mono x1.le)⟩
def Out.plain : Out → Bool
  | .nx _ _ => true
  | .ex _ _ _ => true
  | .bad => true
  | _ => false
theorem plain_of {r : R D} {ρ : Env} {f : D → Mem → Out} (h : ∀ d μ, (f d μ).plain = true) : (Out.of r ρ f).plain = true := by
  cases r with
  | ok d μ => exact h d μ
  | ex c μ => rfl
  | bad => rfl
mutual
theorem asgT_plain {C : Ctx} : ∀ (t : G.T) (d : D) (ρ : Env) (μ : Mem), (asgT C t d ρ μ).plain = true
  | .name i, d, ρ, μ => by simp only [asgT]; rfl
  | .tup ts, d, ρ, μ => by
    simp only [asgT]
    split
    · split
      · exact asgTs_plain ts _ ρ μ
      · rfl
    · rfl
  | .attr o f, d, ρ, μ => by
    simp only [asgT]
    refine plain_of fun x μ1 => ?_
    split <;> rfl
  | .sub o i, d, ρ, μ => by
    simp only [asgT]
    refine plain_of fun x μ1 => plain_of fun y μ2 => ?_
    split <;> rfl
theorem asgTs_plain {C : Ctx} : ∀ (ts : Ts) (ds : List D) (ρ : Env) (μ : Mem), (asgTs C ts ds ρ μ).plain = true
  | .nil, ds, ρ, μ => by
    simp only [asgTs]
    split <;> rfl
  | .cons t r, ds, ρ, μ => by
    simp only [asgTs]
    split
    · next d ds =>
      have h := asgT_plain (C := C) t d ρ μ
      split
      · exact asgTs_plain r _ _ _
      · exact h
    · rfl
end
theorem asg_read {e : E} {t : G.T} {Ds : Ends} {σ : L2.St} {H : Hp} (q : tS C X W (.asg t e) Ds σ H) : tAsg (tE C X W e) (tA C X W t) Ds σ H := by
  obtain ⟨m, ρ, μ, rel, loc, p⟩ := q
  simp only [exec] at p
  refine ⟨m, ρ, μ, rel, loc, (of_ok p loc).imp fun x μ1 m1 H1 x1 rel1 p1 v rv => ?_⟩
  refine ⟨m1, μ1, ρ, x, rel1, loc.mono x1.le, rv, ?_⟩
  have hp := asgT_plain (C := C) t x ρ μ1
  cases e : asgT C t x ρ μ1 with
  | nx ρ' μ' => rw [e] at p1; exact p1
  | ex c ρ' μ' => rw [e] at p1; exact p1
  | bad => rw [e] at p1; exact p1
  | rt d μ => rw [e] at hp; cases hp
  | bk d μ => rw [e] at hp; cases hp
  | ct d μ => rw [e] at hp; cases hp
theorem name_read {e : E} {i : Nat} {Ds : Ends} {σ : L2.St} {H : Hp} (q : tS C X W (.asg (.name i) e) Ds σ H) : tE C X W e σ H fun x H1 => gName i x σ H1 Ds.nx := by
  obtain ⟨m, ρ, μ, rel, loc, p⟩ := q
  simp only [exec] at p
  refine ⟨m, ρ, μ, rel, loc, (of_ok p loc).imp fun x μ1 m1 H1 x1 rel1 p1 v rv => ?_⟩
  simp only [asgT] at p1
  exact p1 m1 H1 _ (Ext.refl _ _) rel1 ((loc.mono x1.le).set rv i)
/-- name = e -/
theorem s_set (ok : Ok T C X W) {n : Nat} {x : PySem.Str} {i : Nat} {e : Expr} {a : E} {p pos : Pos} (hi : slotAt x X.N 0 = some i) (hl : L2.Loc X.env.scope x) (hf : X.fn x = true ∨ X.env.scope.names.lookup x = some .local) (h : cE T X.N (n + 1) X.env.scope e = some a) : PS X (.Assign [.Name x p] e pos) (tS C X W (.asg (.name i) a)) := by
  have plain : swapsWith e (some (.Name x p)) pos.line X.env = pure false → PS X (.Assign [.Name x p] e pos) (tS C X W (.asg (.name i) a)) := fun hs =>
    imS (ps_set ok.nd (slot_at hi) hl (cE_ok (n + 1) X W e a ok rfl h).1 hs hf) fun Ds σ H q => name_read q
  cases e with
  | ListComp elt gens scope cpos =>
    obtain ⟨tg, it, ifs, t, j, y, cs, own, rfl, rfl, L⟩ := lc_parts (cE_ok n) ok rfl h
    have hs : swapsWith (.ListComp elt [⟨tg, it, ifs, 0⟩] scope cpos) (some (.Name x p)) pos.line X.env = pure (X.env.blockKind == .function && X.env.kindOf x == some .local && p.line == cpos.line && !(scope.names.any fun (n, k) => n == x && (k == .local || k == .cell))) := rfl
    cases hb : (X.env.blockKind == .function && X.env.kindOf x == some .local && p.line == cpos.line && !(scope.names.any fun (n, k) => n == x && (k == .local || k == .cell))) with
    | false =>
      rw [hb] at hs
      exact plain hs
    | true =>
      rw [hb] at hs
      simp only [Bool.and_eq_true, beq_iff_eq] at hb
      exact imS (ps_setLc ok.calm ok.nd (slot_at hi) hb.1.1.2 hs L.iter L.blk L.tg L.ifs L.elt (fold_ok L.plain X.env)) fun Ds σ H q => lc_read L.sl (name_read q)
  | SetComp _ _ _ _ => cases h
  | DictComp _ _ _ _ _ => cases h
  | _ => exact plain rfl
theorem s_ret {e : Expr} {i : E} {pos : Pos} (he : PE X e (tE C X W i)) : PS X (.Return (some e) pos) (tS C X W (.ret i)) := by
  refine imS (ps_ret he) fun Ds σ H q => ?_
  obtain ⟨m, ρ, μ, rel, loc, p⟩ := q
  simp only [exec] at p
  exact ⟨m, ρ, μ, rel, loc, (of_ok p loc).imp fun x μ1 m1 H1 x1 rel1 p1 v rv => p1 m1 H1 v (Ext.refl _ _) rel1 rv⟩
theorem s_retn {pos : Pos} : PS X (.Return none pos) (tS C X W .retn) := by
  refine imS ps_retN fun Ds σ H q => ?_
  obtain ⟨m, ρ, μ, rel, loc, p⟩ := q
  simp only [exec] at p
  exact p m H .non (Ext.refl _ _) rel .non
theorem s_pass {pos : Pos} : PS X (.Pass pos) (tS C X W .pass) := by
  refine imS ps_pass fun Ds σ H q => ?_
  obtain ⟨m, ρ, μ, rel, loc, p⟩ := q
  simp only [exec] at p
  exact p m H σ (Ext.refl _ _) rel loc
theorem s_doc {x : PySem.Str} {j : Nat} {p0 pos : Pos} : PS X (.Expr (.Constant (.str x) j p0) pos) (tS C X W .pass) := by
  refine imS ps_doc fun Ds σ H q => ?_
  obtain ⟨m, ρ, μ, rel, loc, p⟩ := q
  simp only [exec] at p
  exact p m H σ (Ext.refl _ _) rel loc
theorem s_brk {pos : Pos} : PS X (.Break pos) (tS C X W .brk) := by
  refine imS ps_break fun Ds σ H q => ?_
  obtain ⟨m, ρ, μ, rel, loc, p⟩ := q
  simp only [exec] at p
  exact p m H σ (Ext.refl _ _) rel loc
theorem s_cont {pos : Pos} : PS X (.Continue pos) (tS C X W .cont) := by
  refine imS ps_continue fun Ds σ H q => ?_
  obtain ⟨m, ρ, μ, rel, loc, p⟩ := q
  simp only [exec] at p
  exact p m H σ (Ext.refl _ _) rel loc
theorem s_ite {c : Expr} {a b : List Stmt} {i : E} {j k : Ss} {pos : Pos} (hc : PT X c (tT C X W i)) (ha : PSs X a (tSs C X W j)) (hb : PSs X b (tSs C X W k)) : PS X (.If c a b pos) (tS C X W (.ite i j k)) := by
  refine imS (ps_if hc ha hb) fun Ds σ H q => ?_
  obtain ⟨m, ρ, μ, rel, loc, p⟩ := q
  simp only [exec] at p
  refine ⟨m, ρ, μ, rel, loc, (test_ok p loc).imp fun x μ1 m1 H1 x1 rel1 ⟨b, e, p1⟩ => ⟨b, e, ?_⟩⟩
  cases b with
  | true => exact ⟨m1, ρ, μ1, rel1, loc.mono x1.le, p1⟩
  | false => exact ⟨m1, ρ, μ1, rel1, loc.mono x1.le, p1⟩
theorem s_aug (ok : Ok T C X W) {x : PySem.Str} {i : Nat} {op : Operator} {o : Op} {e : Expr} {a : E} {p pos : Pos} (hi : slotAt x X.N 0 = some i) (hl : L2.Loc X.env.scope x) (hf : X.fn x = true ∨ X.env.scope.names.lookup x = some .local) (ho : cAug op = some o) (he : PE X e (tE C X W a)) :
    PS X (.AugAssign (.Name x p) op e pos) (tS C X W (.augn i o a)) := by
  have go : ∀ {f : Int → Int → Int}, PIp X op (ipI f) → (∀ n k μ, G.bin o (.int n) (.int k) μ = .ok (.int (f n k)) μ) → PS X (.AugAssign (.Name x p) op e pos) (tS C X W (.augn i o a)) := fun {f} hp hb => by
    refine imS (ps_aug ok.nd (slot_at hi) hl he hp hf) fun Ds σ H q => ?_
    obtain ⟨m, ρ, μ, rel, loc, pp⟩ := q
    simp only [exec] at pp
    split at pp
    · next d e0 =>
      obtain ⟨v, e1, rv⟩ := loc.2 i d e0
      refine ⟨v, e1, m, ρ, μ, rel, loc, (of_ok pp loc).imp fun y μ1 m1 H1 x1 rel1 p1 u ru => ?_⟩
      cases d with
      | int n =>
        cases y with
        | int k =>
          simp only [hb] at p1
          cases rv
          cases ru
          exact ⟨n, k, rfl, rfl, p1 m1 H1 _ (Ext.refl _ _) rel1 ((loc.mono x1.le).set (.int _) i)⟩
        | _ => exact p1.elim
      | _ => cases y <;> exact p1.elim
    · exact pp.elim
  cases op with
  | Add =>
    cases ho
    exact go ip_add fun n k μ => rfl
  | Sub =>
    cases ho
    exact go ip_sub fun n k μ => rfl
  | _ => cases ho
theorem loop_ok {m : Mp} {H : Hp} {o : Out} {f : Env → Mem → Out} {Ds : Ends} (N : L2.St → Hp → Prop) (h : PostS X W m H (match o with
    | .nx ρ1 μ1 => f ρ1 μ1
    | .ct ρ1 μ1 => f ρ1 μ1
    | .bk ρ1 μ1 => .nx ρ1 μ1
    | .rt d μ1 => .rt d μ1
    | .ex c ρ1 μ1 => .ex c ρ1 μ1
    | .bad => .bad) Ds) (hN : ∀ m' H' σ' ρ μ, Ext m H m' H' → RelM X m' H' μ → Loc X m' σ' ρ → PostS X W m' H' (f ρ μ) Ds → N σ' H') : PostS X W m H o { Ds with nx := N, ct := N, bk := Ds.nx } := by
  cases o with
  | nx ρ μ => exact fun m' H' σ' x rel loc => hN m' H' σ' ρ μ x rel loc (PostS.on h x)
  | ct ρ μ => exact fun m' H' σ' x rel loc => hN m' H' σ' ρ μ x rel loc (PostS.on h x)
  | bk ρ μ => exact h
  | rt d μ => exact h
  | ex c ρ μ => exact h
  | bad => exact h
theorem s_while (hp : PassesOwn (model X.prog X.w) X.A X.env X.xe) {c : Expr} {b : List Stmt} {i : E} {j : Ss} {pos : Pos} (hc : PT X c (tT C X W i)) (hb : PSs X b (tSs C X W j)) : PS X (.While c b [] pos) (tS C X W (.whil i j)) := by
  refine imS (ps_while hp hc hb) fun Ds σ H q => ?_
  obtain ⟨m, ρ, μ, rel, loc, p⟩ := q
  simp only [exec] at p
  refine ⟨fun n σ H => ∃ m ρ μ, RelM X m H μ ∧ Loc X m σ ρ ∧ PostS X W m H (whileL (evalE C i) (execs C j) n ρ μ) Ds, ⟨C.w, m, ρ, μ, rel, loc, p⟩, ?_⟩
  rintro n σ H ⟨m, ρ, μ, rel, loc, p⟩
  cases n with
  | zero =>
    simp only [whileL] at p
    exact p.elim
  | succ n =>
    simp only [whileL] at p
    refine ⟨m, ρ, μ, rel, loc, (test_ok p loc).imp fun x μ1 m1 H1 x1 rel1 ⟨t, e, p1⟩ => ⟨t, e, ?_⟩⟩
    cases t with
    | true =>
      refine ⟨fun σ H => ∃ m ρ μ, RelM X m H μ ∧ Loc X m σ ρ ∧ PostS X W m H (whileL (evalE C i) (execs C j) n ρ μ) Ds, fun σ' H' h => ⟨n, Nat.lt_succ_self n, h⟩, m1, ρ, μ1, rel1, loc.mono x1.le, ?_⟩
      exact loop_ok _ p1 fun m' H' σ' ρ' μ' x' rel' loc' p' => ⟨m', ρ', μ', rel', loc', p'⟩
    | false => exact p1 m1 H1 σ (Ext.refl _ _) rel1 (loc.mono x1.le)
theorem s_for (hp : PassesOwn (model X.prog X.w) X.A X.env X.xe) (ok : Ok T C X W) {tg it : Expr} {b : List Stmt} {t : G.T} {i : I} {j : Ss} {pos : Pos} (hi : PI X tg it (tI C X W i)) (hg : PG X tg (tBn X t)) (hb : PSs X b (tSs C X W j)) (hf : ∀ x, foldedSetIterable it X.env x = pure x) :
    PS X (.For tg it b [] pos) (tS C X W (.for t i j)) := by
  refine imS (ps_for hp ok.calm hi hg hb hf) fun Ds σ H q => ?_
  obtain ⟨m, ρ, μ, rel, loc, p⟩ := q
  simp only [exec] at p
  refine ⟨m, ρ, μ, rel, loc, (walk_ok p loc).imp fun w μ1 m1 H1 x1 rel1 p1 J hJ => ?_⟩
  generalize hst : (fun d ρ1 μ2 => match bindT t d ρ1 with
    | some ρ2 => execs C j ρ2 μ2
    | none => Out.bad) = step at p1
  let Inv1 : Nat → L2.St → Hp → Prop := fun i σ H => ∃ m' ρ' μ', Ext m1 H1 m' H ∧ RelM X m' H μ' ∧ Loc X m' σ ρ' ∧ i ≤ w.items.length ∧ PostS X W m' H (forL w.keep step (w.items.drop i) ρ' μ') Ds
  refine ⟨fun i n σ H => n = w.items.length - i ∧ Inv1 i σ H, ⟨w.items.length, by simp, m1, ρ, μ1, Ext.refl _ _, rel1, loc.mono x1.le, Nat.zero_le _, by simpa using p1⟩, ?_⟩
  rintro i n σ H ⟨rfl, m', ρ', μ', x', rel', loc', hi, pp⟩
  by_cases hlt : i < w.items.length
  · rw [List.drop_eq_getElem_cons hlt] at pp
    simp only [forL] at pp
    by_cases hk : w.keep μ' = true
    · rw [if_pos hk] at pp
      obtain ⟨_, hgo⟩ := hJ i H m' μ' x' rel' hk
      obtain ⟨go, hy⟩ := hgo _ (List.getElem?_eq_getElem hlt)
      refine .inr ⟨go, Inv1 (i + 1), fun σ' H' h' => ⟨w.items.length - (i + 1), by omega, rfl, h'⟩, fun x H' y => ?_⟩
      obtain ⟨m3, x3, rel3, rx⟩ := hy x H' y
      subst hst
      simp only [] at pp
      cases hb : bindT t w.items[i] ρ' with
      | none => rw [hb] at pp; exact pp.elim
      | some ρ1 =>
        rw [hb] at pp
        refine ⟨m3, μ', ρ', _, ρ1, rel3, loc'.mono x3.le, rx, hb, fun σ2 loc2 _ _ => ⟨m3, ρ1, μ', rel3, loc2, ?_⟩⟩
        exact loop_ok _ (PostS.on pp x3) fun m4 H4 σ4 ρ4 μ4 x4 rel4 loc4 p4 => ⟨m4, ρ4, μ4, (x'.trans x3).trans x4, rel4, loc4, hlt, p4⟩
    · rw [if_neg hk] at pp
      exact pp.elim
  · have e0 : i = w.items.length := by omega
    subst e0
    rw [List.drop_length] at pp
    simp only [forL] at pp
    by_cases hk : w.keep μ' = true
    · rw [if_pos hk] at pp
      obtain ⟨hst, _⟩ := hJ _ H m' μ' x' rel' hk
      exact .inl ⟨hst rfl, pp m' H σ (Ext.refl _ _) rel' loc'⟩
    · rw [if_neg hk] at pp
      exact pp.elim
theorem s_del {o i : Expr} {x y : E} {p0 pos : Pos} (ho : PE X o (tE C X W x)) (hi : PE X i (tE C X W y)) : PS X (.Delete [.Subscript o i p0] pos) (tS C X W (.del x y)) := by
  refine imS (ps_ddel ho hi) fun Ds σ H q => ?_
  obtain ⟨m, ρ, μ, rel, loc, p⟩ := q
  simp only [exec] at p
  refine ⟨m, ρ, μ, rel, loc, (of_ok p loc).imp fun z μ1 m1 H1 x1 rel1 p1 w rw => ?_⟩
  refine ⟨m1, ρ, μ1, rel1, loc.mono x1.le, (of_ok p1 (loc.mono x1.le)).imp fun j μ2 m2 H2 x2 rel2 p2 u ru => ?_⟩
  cases e : delKey z j μ2 with
  | none => rw [e] at p2; exact p2.elim
  | some μ3 =>
    rw [e] at p2
    unfold delKey at e
    cases z with
    | ref k =>
      simp only [] at e
      split at e
      · next kvs ek =>
        split at e
        · next q eq =>
          split at e
          · next hs =>
            cases e
            obtain ⟨l, rfl, hk, ys, h1, h2, h3⟩ := rel2.at_ (rw.mono x2.le) ek
            have hv := kGet_valV q h3
            obtain ⟨d, hd⟩ := Option.isSome_iff_exists.mp hs
            rw [hd] at hv
            obtain ⟨v, hv, _⟩ := hv
            obtain ⟨rel3, x3⟩ := rel2.wr (o := .dK (dropK ys (kk q))) hk h2 (c := .dict (kDel q kvs)) ⟨_, upd_same, h2, kDel_drop h3⟩
            exact ⟨l, ys, kk q, rfl, h1, keyOf_V ru eq, by rw [hv]; rfl, p2 m2 _ σ x3 rel3 (((loc.mono x1.le).mono x2.le).mono x3.le)⟩
          · cases e
        · cases e
      · cases e
    | _ => cases e
/-! ### every statement -/
structure OkS (T : Tab) (C : Ctx) (X : Cx) (W : WX) : Prop extends Ok T C X W where
  pass : PassesOwn (model X.prog X.w) X.A X.env X.xe
  fn : ∀ x, X.fn x = true
theorem stepS_ok (ok : OkS T C X W) {n : Nat} {rs : Stmt → Option S} (ih : ∀ s i, rs s = some i → PS X s (tS C X W i)) {s : Stmt} {i : S} (h : stepS T X.N X.env.scope (cE T X.N (n + 1) X.env.scope) rs s = some i) : PS X s (tS C X W i) := by
  have hb : ∀ e i, cE T X.N (n + 1) X.env.scope e = some i → Both X C W e i := fun e i h => cE_ok (n + 1) X W e i ok.toOk rfl h
  have hr : ∀ e i, cE T X.N (n + 1) X.env.scope e = some i → PE X e (tE C X W i) := fun e i h => (hb e i h).1
  have hl : ∀ x, isLoc X.env.scope x = true → L2.Loc X.env.scope x ∧ (X.fn x = true ∨ X.env.scope.names.lookup x = some .local) := fun x hx => ⟨isLoc_ok hx, .inl (ok.fn x)⟩
  cases s with
  | Expr e pos =>
    simp only [stepS] at h
    split at h
    · cases h
      exact s_doc
    · split at h
      · cases h
      · next hc =>
        simp only [Option.map_eq_some_iff] at h
        obtain ⟨a, h1, rfl⟩ := h
        exact s_expr (hr _ _ h1) (by simpa using hc)
  | Assign ts e pos =>
    simp only [stepS] at h
    split at h
    · split at h
      · split at h
        · next hx =>
          split at h
          · next i a h1 h2 =>
            cases h
            exact s_set ok.toOk h1 (hl _ hx).1 (hl _ hx).2 h2
          · cases h
        · cases h
      · split at h
        · cases h
        · next ht =>
          split at h
          · next t a h1 h2 =>
            cases h
            have ht : isTupE e = false := by simpa using ht
            refine imS (ps_asg (hr _ _ h2) (t_ok ok.toOk hr hl h1) ?_ ?_ rfl) fun Ds σ H q => asg_read q
            · cases e <;> rfl
            · cases e <;> first | rfl | cases ht
          · cases h
      · split at h
        · next hp =>
          split at h
          · next x y a h1 h2 h3 =>
            cases h
            refine imS (ps_asg (hr _ _ h3) (a_sub ok.toOk (hr _ _ h1) (hr _ _ h2) hp) ?_ rfl rfl) fun Ds σ H q => asg_read q
            cases e <;> rfl
          · cases h
        · cases h
      · split at h
        · cases h
        · next hc => rw [ok.cls] at hc; simp at hc
      · cases h
    · cases h
  | AugAssign tg op e pos =>
    simp only [stepS] at h
    split at h
    · split at h
      · next hx =>
        split at h
        · next i o a h1 h2 h3 =>
          cases h
          exact s_aug ok.toOk h1 (hl _ hx).1 (hl _ hx).2 h2 (hr _ _ h3)
        · cases h
      · cases h
    · rw [ok.cls] at h
      cases h
    · cases h
  | Return v pos =>
    simp only [stepS] at h
    split at h
    · simp only [Option.map_eq_some_iff] at h
      obtain ⟨a, h1, rfl⟩ := h
      exact s_ret (hr _ _ h1)
    · cases h
      exact s_retn
  | If c a b pos =>
    simp only [stepS] at h
    split at h
    · next x y z h1 h2 h3 =>
      cases h
      exact s_ite (hb _ _ h1).2 (ss_ok ih h2) (ss_ok ih h3)
    · cases h
  | While c b orelse pos =>
    simp only [stepS] at h
    split at h
    · split at h
      · next x y h1 h2 =>
        cases h
        exact s_while ok.pass (hb _ _ h1).2 (ss_ok ih h2)
      · cases h
    · cases h
  | For tg it b orelse pos =>
    simp only [stepS] at h
    split at h
    · split at h
      · next t i y h1 h2 h3 =>
        cases h
        have hit : plainE it = true := by
          unfold cI at h2
          split at h2
          · next q => exact q
          · cases h2
        exact s_for ok.pass ok.toOk (iter_ok ok.toOk hr h2) (n_ok ok.calm ok.nd hl h1) (ss_ok ih h3) (fold_ok hit X.env)
      · cases h
    · cases h
  | Break pos =>
    cases h
    exact s_brk
  | Continue pos =>
    cases h
    exact s_cont
  | Pass pos =>
    cases h
    exact s_pass
  | Delete ts pos =>
    simp only [stepS] at h
    split at h
    · split at h
      · split at h
        · next x y h1 h2 =>
          cases h
          exact s_del (hr _ _ h1) (hr _ _ h2)
        · cases h
      · cases h
    · cases h
  | Raise exc cause pos =>
    simp only [stepS] at h
    split at h
    · rw [ok.cls] at h
      split at h <;> cases h
    · cases h
  | Try b hs orelse fin pos =>
    simp only [stepS] at h
    split at h
    · rw [ok.cls] at h
      split at h
      · split at h
        · next h1 _ _ => cases h1
        · cases h
      · cases h
    · cases h
  | _ => cases h
theorem cS_ok (ok : OkS T C X W) {n : Nat} : ∀ k : Nat, ∀ s i, cS T X.N X.env.scope (cE T X.N (n + 1) X.env.scope) k s = some i → PS X s (tS C X W i)
  | 0, s, i, h => by cases h
  | k + 1, s, i, h => stepS_ok ok (fun s i h => cS_ok ok k s i h) h
/-- a def's body -/
theorem body_ok (ok : OkS T C X W) {body : List Stmt} {params : Nat} {F : Fn} (h : cFn T X.N params X.env.scope body = some F) : PSs X body (tSs C X W F.body) := by
  simp only [cFn, Option.map_eq_some_iff] at h
  obtain ⟨b, h1, rfl⟩ := h
  exact ss_ok (fun s i h => cS_ok (n := 39) ok 40 s i h) h1
end
end G
/-! The G machine over the hand layer: all defs of a program, a law's end. -/
set_option Elab.async false
set_option linter.all false
set_option maxRecDepth 100000
namespace G
open PySem PySem.Spec L2 PyProof.Rows
/-- the machine n calls deep -/
def ctxN (P : Prog) (f : String) (n : Nat) : Ctx := ⟨run P n, P.w, P.fr f, P.sub⟩
/-- a def: its text, the machine's name of it, its slots, its parameters -/
structure GD where
  d : He.DefD
  f : String
  N : List PySem.Str
  ps : List PySem.Str
/-- what is checked of it -/
structure GD.Ok (g : GD) (T : Tab) (P : Prog) : Prop where
  scope : FnScope g.N g.ps g.d.scope
  comp : ∃ F, cFn T g.N g.ps.length g.d.scope g.d.body = some F ∧ P.fns g.f = some F
  bind : ∀ (kV doc pm : Value) (an : Option Addr) (cdv ct : Value) (us : List Value), us.length = g.ps.length → bindArgs (PySem.W.fnOf g.d.name g.d.qual g.d.params g.d.body g.d.scope .none kV doc pm an cdv ct) ⟨us, []⟩ = pure (g.ps.zip us)
/-- what the head says -/
structure Wd (T : Tab) (gs : List GD) (K : PySem.W.Frag) (mg : PySem.Str → Option Value) : Prop where
  lib : Lib mg
  con : ∀ x d, T.con.lookup x = some d → ∃ v u, mg x = some u ∧ RelV v u ∧ ∀ m, Rp K m v d
  cls : T.cls = []
  mth : T.mth = []
  fns : ∀ x f, T.fns.lookup x = some f → ∃ g ∈ gs, g.d.name = x ∧ g.f = f
  glo : ∀ g ∈ gs, mg g.d.name = some (.ref (He.ga K g.d.name))
  def_ : ∀ g ∈ gs, ∃ fd, FunD K g.d.name g.d.qual g.d.params g.d.body g.d.scope [] [] (He.ga K g.d.name) fd
theorem loc_start {X : Cx} {m : Mp} {N : List PySem.Str} {vs : List V} {ds : List D} (r : Rps X.K m vs ds) : Loc X m (L2.start N vs) (ds.map some ++ List.replicate (N.length - ds.length) none) := by
  have hl := r.len
  refine ⟨by simp [L2.start, hl], fun i d e => ?_⟩
  by_cases hi : i < ds.length
  · rw [List.getElem?_append_left (by simpa using hi), List.getElem?_map, Option.map_eq_some_iff] at e
    obtain ⟨d', h1, h2⟩ := e
    cases h2
    obtain ⟨v, hv, rv⟩ := r.get h1
    refine ⟨v, ?_, rv⟩
    unfold L2.start
    rw [List.getElem?_append_left (by rw [List.length_map, hl]; exact hi), List.getElem?_map, hv]
    rfl
  · rw [List.getElem?_append_right (by simpa using hi), List.getElem?_replicate] at e
    split at e <;> cases e
section
variable {Pr : Program} {w : World} {K : PySem.W.Frag} {mg : PySem.Str → Option Value} {base : Heap} {T : Tab} {P : Prog} {gs : List GD}
theorem fnO_all (wd : Wd T gs K mg) (hg : ∀ g ∈ gs, g.Ok T P) : ∀ (n : Nat), ∀ g ∈ gs, ∀ fd, FunD K g.d.name g.d.qual g.d.params g.d.body g.d.scope [] [] (He.ga K g.d.name) fd → FnO Pr w K mg base n (He.ga K g.d.name) fd g.ps (sG K mg (ctxN P "" n) g.f)
  | 0, g, hm, fd, F => by
    have no : ∀ vs H Q E, sG K mg (ctxN P "" 0) g.f vs H Q E → False := fun vs H Q E ⟨m, μ, ds, _, _, p⟩ => p
    exact ⟨fun vs H Q E h => (no vs H Q E h).elim, fun A outer s H args us vs Q E _ _ _ _ h => (no vs H Q E h).elim⟩
  | n + 1, g, hm, fd, F => by
    obtain ⟨oc, od, dV, kV, doc, pm, an, cdv, ct, osl, rfl, lk, hcd, _, _⟩ := F.ex
    have G := hg g hm
    obtain ⟨Fn, hF, hP⟩ := G.comp
    have hpar : Fn.params = g.ps.length ∧ Fn.slots = g.N.length := by
      simp only [cFn, Option.map_eq_some_iff] at hF
      obtain ⟨b, _, rfl⟩ := hF
      exact ⟨rfl, rfl⟩
    have open_ : ∀ {ds : List D} {μ : Mem} {m : Mp} {H : Hp} {Xc : String → Mem → Mp → Hp → Prop} {k : D → Mem → Mp → Hp → Prop}, PostG K mg Xc m H ((ctxN P "" (n + 1)).call g.f ds μ) k → ds.length = g.ps.length ∧
        PostG K mg Xc m H (match execs (ctxN P g.f n) Fn.body (ds.map some ++ List.replicate (Fn.slots - ds.length) none) μ with
    | .nx _ μ1 => R.ok .non μ1
    | .rt d μ1 => .ok d μ1
    | .ex c _ μ1 => .ex c μ1
    | _ => .bad) k := fun {ds μ m H Xc k} p => by
      have p : PostG K mg Xc m H (run P (n + 1) g.f ds μ) k := p
      simp only [run, hP] at p
      unfold runFn at p
      split at p
      · next hl => exact ⟨hl.trans hpar.1, p⟩
      · exact p.elim
    refine fnO_of lk hcd G.scope (fun vs H Q E h => ?_) fun A outer s H vs Q E room h => ?_
    · obtain ⟨m, μ, ds, rel, r, p⟩ := h
      rw [r.len]
      exact (open_ p).1
    · obtain ⟨m, μ, ds, rel, r, p⟩ := h
      obtain ⟨hl, p⟩ := open_ p
      have X0 : ∃ X : Cx, X = cxOf (CX Pr w) Pr w K mg base g.N g.d.qual g.d.scope (He.ga K g.d.name) cdv A outer s H E := ⟨_, rfl⟩
      refine ⟨tSs (ctxN P g.f n) (cxOf (CX Pr w) Pr w K mg base g.N g.d.qual g.d.scope (He.ga K g.d.name) cdv A outer s H E) (fun cls d _ H => E cls d H) Fn.body, ?_, ?_⟩
      · refine body_ok (T := T) ?_ hF
        refine ⟨⟨rfl, G.scope.nd, wd.lib, by have := room.room.un; show (A.deeper _).units + 200 < cLine; omega, room.gd, takes_of rfl rfl rfl rfl, wd.con, fun x f hx => ?_, wd.cls, wd.mth⟩, passes_of rfl, fun _ => rfl⟩
        obtain ⟨g2, hm2, rfl, rfl⟩ := wd.fns x f hx
        obtain ⟨fd2, F2⟩ := wd.def_ g2 hm2
        exact ⟨He.ga K g2.d.name, wd.glo g2 hm2, F2.kp, n, fd2, g2.ps, fnO_all wd hg n g2 hm2 fd2 F2, room, F2.bindsN (hg g2 hm2).bind⟩
      · refine ⟨m, _, μ, rel, loc_start r, ?_⟩
        rw [hpar.2] at p
        cases eo : execs (ctxN P g.f n) Fn.body (ds.map some ++ List.replicate (g.N.length - ds.length) none) μ with
        | nx ρ μ1 => rw [eo] at p; exact fun m' H' σ' x rel' _ => p m' H' x rel' .non .non
        | rt d μ1 => rw [eo] at p; exact fun m' H' v x rel' rv => p m' H' x rel' v rv
        | ex c ρ μ1 => rw [eo] at p; exact fun m' H' σ' x rel' _ A hA => p m' H' x rel' A hA
        | bk ρ μ1 => rw [eo] at p; exact p.elim
        | ct ρ μ1 => rw [eo] at p; exact p.elim
        | bad => rw [eo] at p; exact p.elim
end
end G
/-! The G machine over the hand layer: a law's end. -/
set_option Elab.async false
set_option linter.all false
set_option maxRecDepth 100000
namespace G
open PySem PySem.Spec L2 PyProof.Rows
/-- the library's end, for a promise that no guard stands around -/
theorem law_callG {Pr : Program} {w : World} {K : PySem.W.Frag} {mg mb : PySem.Str → Option Value} {k : Nat} {fa a : Addr} {fd : FuncData} {x : PySem.Str} {sp : Sp} {s : Shared} {vs : List Value} {ns : List Int}
    (KX : K.In s.heap) (hG : s.heap.Ns mainGlobals mg) (hB : s.heap.Ns builtinsNs mb) (hbb : ∀ x : PySem.Str, x ≠ "__name__" → mb x = bootBuiltins x) (hLim : s.heap.NoLimit) (hGen : s.gens = #[])
    (ha : s.heap.get? a = some { cls := .type "list", data := .seq vs.toArray }) (hi : IntsAre vs ns) (hl : ns.length ≤ sizeLine) (room : RoomG k callerA)
    (F : ∀ base : Heap, K.In base → base.Ns mainGlobals mg → FnO Pr w K mg base k fa fd [x] sp) (hbind : ∀ (t : Shared) (u : Value), BindsTo t fd ⟨[u], []⟩ [(x, u)])
    (hsp : ∀ H : Hp, Only H → SqX K H a (ns.map V.int) → sp [.ref a] H (fun v _ => v = .bl true) fun _ _ _ => False) :
    codeAny (model Pr w) callerA (.call (.ref fa) ⟨[.ref a], []⟩) (fun r t => r = .ok (.ret (.bool true)) ∧ OldK s.heap t.heap ∧ t.os = s.os ∧ AllBare t.gens) s := by
  have hv := vals_ints hi
  have hn := hi.length
  have main : ∀ H : Hp, Only H → SqX K H a (ns.map V.int) → HOk Pr w H s.heap → (∀ c, H c ≠ none → c = a) → (H a ≠ none → K.lookup a = none) →
      codeAny (model Pr w) callerA (.call (.ref fa) ⟨[.ref a], []⟩) (fun r t => r = .ok (.ret (.bool true)) ∧ OldK s.heap t.heap ∧ t.os = s.os ∧ AllBare t.gens) s := by
    intro H only sq hok onlyA notK
    have away : ∀ {c : Addr} {o : Obj}, s.heap.get? c = some o → H c = none → (hidT s.heap H).get? c = some o := fun e z => hidT_get e z
    have noDict : ∀ {c : Addr} {o : Obj} {es : Array DictEntry} {ep : Nat}, s.heap.get? c = some o → o.data = .dict es ep → H c = none := fun {c o es ep} e hd => by
      cases z : H c with
      | none => rfl
      | some u =>
        have ec : c = a := onlyA c (by rw [z]; exact fun y => nomatch y)
        rw [ec, ha] at e
        cases e
        cases (show Data.seq vs.toArray _ = Data.dict es ep from hd)
    have nsAway : ∀ {c : Addr} {m : PySem.Str → Option Value}, s.heap.Ns c m → (hidT s.heap H).Ns c m := fun {c m} h => by
      obtain ⟨o, es, ep, e, hd, r⟩ := h
      exact ⟨o, es, ep, away e (noDict e hd), hd, r⟩
    have KB : K.In (hidT s.heap H) := fun c o e => away (KX c o e) (by
      cases z : H c with
      | none => rfl
      | some u =>
        have ec : c = a := onlyA c (by rw [z]; exact fun y => nomatch y)
        rw [ec] at z e
        rw [notK (by rw [z]; exact fun y => nomatch y)] at e
        cases e)
    obtain ⟨mc, c1, c2⟩ := hLim
    have hM : Mod K mg (hidT s.heap H) := ⟨KB, nsAway hG, ⟨mb, nsAway hB, hbb⟩, ⟨mc, nsAway c1, c2⟩⟩
    have env : Env0 Pr w K mg (hidT s.heap H) callerA [] s H := ⟨rfl, hM, fun c o e => of_hidT e, Nat.le_of_eq (hidT_size _ _), trivial, fun c hc => (List.not_mem_nil hc).elim, hok, .of_eq hGen⟩
    refine codeAny_mono ((F _ KB (nsAway hG)).run callerA [] s H ⟨[.ref a], []⟩ [.ref a] [.ref a] _ _ room env (hbind s (.ref a)) (.cons rfl .nil) (hsp H only sq)) fun r t h => ?_
    cases r with
    | error e =>
      obtain ⟨_, _, _, _, _, _, _, _, _, _, _, _, no⟩ := h
      exact no.elim
    | ok fl =>
      cases fl with
      | ret u =>
        obtain ⟨v, H', os, bare, un, hok', rv, q⟩ := h
        have q : v = .bl true := q
        rw [q] at rv
        have hu : u = Value.bool true := rv
        rw [hu]
        refine ⟨rfl, OldK.of_keep fun c o e => ?_, os, bare⟩
        cases z : H c with
        | none => exact un.keep c o e z (fun y => List.not_mem_nil y) (fun y => List.not_mem_nil y)
        | some u =>
          rcases only c with y | ⟨ob, xs, y⟩
          · rw [z] at y
            cases y
          · obtain ⟨e1, _⟩ := hok c _ y
            obtain ⟨e2, _⟩ := hok' c _ (un.frzs c ob _ y)
            rw [e] at e1
            cases e1
            exact e2
      | _ => exact False.elim h
  cases hk : K.lookup a with
  | some o =>
    have e := KX a o hk
    rw [ha] at e
    cases e
    exact main (fun _ => none) (fun _ => .inl rfl) (.inr ⟨vs.toArray, _, hk, by rw [List.size_toArray, hn]; exact hl, by simpa using hv⟩) (fun c u z => nomatch (show (none : Option HO) = some u from z)) (fun c z => absurd rfl z) fun z => absurd rfl z
  | none =>
    refine main (fun c => if c = a then some (.frz { cls := .type "list", data := .seq vs.toArray } (.lst (ns.map V.int))) else none) (fun c => ?_) (.inl (.inr ⟨{ cls := .type "list", data := .seq vs.toArray }, if_pos rfl⟩)) (fun c u z => ?_) (fun c z => ?_) fun _ => hk
    · by_cases hc : c = a
      · exact .inr ⟨_, _, if_pos hc⟩
      · exact .inl (if_neg hc)
    · by_cases hc : c = a
      · have y := (if_pos hc).symm.trans z
        cases y
        rw [hc]
        exact ⟨ha, by rw [List.length_map]; exact hl, vs, _, hv, ha⟩
      · cases (if_neg hc).symm.trans z
    · by_cases hc : c = a
      · exact hc
      · exact absurd (if_neg hc) z
/-- the script, as the machine's own list -/
def scriptD (ns : List Int) : D := .lst (ns.map D.int)
/-- the machine's run of the law, at every script -/
def Runs (P : Prog) (k : Nat) (f : String) (most : Nat) : Prop := ∀ ns : List Int, ns.length ≤ most → (∀ i ∈ ns, Builtin.Int.intBits i ≤ 1048576) → ∃ μ, run P k f [scriptD ns] [] = .ok (.bl true) μ
theorem sp_of_run {K : PySem.W.Frag} {mg : PySem.Str → Option Value} {P : Prog} {k : Nat} {f : String} {H : Hp} {a : Addr} {ns : List Int} {μ : Mem} (h : run P k f [scriptD ns] [] = .ok (.bl true) μ) (sq : SqX K H a (ns.map V.int)) :
    sG K mg (ctxN P "" k) f [.ref a] H (fun v _ => v = .bl true) fun _ _ _ => False := by
  refine ⟨⟨fun _ => none, H⟩, [], [scriptD ns], ⟨fun _ _ e => e, fun k c e => (by simp at e), fun _ _ _ e => (by cases e), fun _ _ e => (by cases e)⟩, .cons (.lst sq (Rps.ofInts ns)) .nil, ?_⟩
  show PostG K mg _ _ H (run P k f [scriptD ns] []) _
  rw [h]
  intro m' H' _ _ v rv
  cases rv
  rfl
/-! ### from the head's facts -/
def libNames : List PySem.Str := ["len", "int", "str", "bool", "abs", "list", "tuple", "dict", "repr", "sorted", "sum", "min", "max", "any", "all", "range", "enumerate", "zip", "reversed", "isinstance"]
/-- constants of the module: ints and texts -/
inductive Kon where
  | int (x : PySem.Str) (i : Int)
  | str (x : PySem.Str) (t : Tx)
def Kon.fa : Kon → He.Fa
  | .int x i => .int x i
  | .str x t => .str x (cs t)
def Kon.con : Kon → PySem.Str × D
  | .int x i => (x, .int i)
  | .str x t => (x, .str t)
def tabOf (gs : List GD) (ks : List Kon) : Tab := ⟨gs.map fun g => (g.d.name, g.f), [], ks.map Kon.con, []⟩
def faOf (gs : List GD) (ks : List Kon) : List He.Fa := (gs.map fun g => .glo g.d.name) ++ (ks.map Kon.fa ++ libNames.map .free)
theorem says_mem {fa : List He.Fa} {fn : List He.DefD} {K : PySem.W.Frag} (c : He.SaysD fa fn K) {f : He.Fa} (h : f ∈ fa) : f.ok K = true := by
  obtain ⟨i, hi⟩ := List.getElem?_of_mem h
  exact c.fact i hi
theorem wd_of {gs : List GD} {ks : List Kon} {K : PySem.W.Frag} {h : Heap} {mg : PySem.Str → Option Value} (X : K.In h) (G : h.Ns mainGlobals mg) (c : He.SaysD (faOf gs ks) (gs.map GD.d) K) (hd : ∀ g ∈ gs, g.d.at_ = (g.d.name, none) ∧ g.d.dfl = [] ∧ g.d.kwd = [])
    (hks : ∀ x t, Kon.str x t ∈ ks → t.length ≤ line) : Wd (tabOf gs ks) gs K mg := by
  have free : ∀ x ∈ libNames, mg x = none := fun x hx => He.free_ok X G (says_mem c (List.mem_append_right _ (List.mem_append_right _ (List.mem_map_of_mem hx))))
  refine ⟨⟨?_, ?_, ?_, ?_, ?_, ?_, ?_, ?_, ?_, ?_, ?_, ?_, ?_, ?_, ?_, ?_, ?_, ?_, ?_, ?_⟩, fun x d e => ?_, rfl, rfl, fun x f e => ?_, fun g hg => ?_, fun g hg => ?_⟩
  all_goals try (exact free _ (by simp [libNames]))
  · have hm := of_lookup e
    obtain ⟨k, hk, ek⟩ := List.mem_map.mp hm
    cases k with
    | int y i =>
      cases ek
      obtain ⟨t, ht⟩ := He.int_ok X G (says_mem c (List.mem_append_right _ (List.mem_append_left _ (List.mem_map_of_mem (f := Kon.fa) hk))))
      exact ⟨.int i, _, ht, ⟨t, rfl⟩, fun _ => .int i⟩
    | str y z =>
      cases ek
      obtain ⟨t, ht⟩ := He.str_ok X G (says_mem c (List.mem_append_right _ (List.mem_append_left _ (List.mem_map_of_mem (f := Kon.fa) hk))))
      exact ⟨.str (cs z), _, ht, ⟨t, rfl⟩, fun _ => .str z (hks _ z hk)⟩
  · have hm := of_lookup e
    obtain ⟨g, hg, eg⟩ := List.mem_map.mp hm
    cases eg
    exact ⟨g, hg, rfl, rfl⟩
  · exact He.glo_ok X G (says_mem c (List.mem_append_left _ (List.mem_map_of_mem (f := fun g : GD => He.Fa.glo g.d.name) hg)))
  · obtain ⟨i, hi⟩ := List.getElem?_of_mem hg
    obtain ⟨fd, F⟩ := c.def_ i (d := g.d) (by rw [List.getElem?_map, hi]; rfl)
    obtain ⟨h1, h2, h3⟩ := hd g hg
    refine ⟨fd, ?_⟩
    have e1 : He.fAd K g.d.at_ = He.ga K g.d.name := by rw [h1]; rfl
    have e2 : g.d.dvs K = [] := by unfold He.DefD.dvs; rw [h2]; rfl
    have e3 : g.d.kws K = [] := by unfold He.DefD.kws; rw [h3]; rfl
    rw [e1, e2, e3] at F
    exact F
/-- the walk of a law from the machine's run -/
theorem walk_G {l : PySem.W.OpenLaw} {most k : Nat} {q : Program} {loose : List PySem.Str} {XP : (PySem.Str → Option Value) → Heap → Prop} {d : DefRec} {x : PySem.Str} {gs : List GD} {ks : List Kon} {P : Prog} {n : Nat} {g : GD}
    (hn : l.most = some most) (hn2 : most ≤ sizeLine) (hdf : d.params.defaults = []) (room : RoomG k callerA) (hg : ∀ g ∈ gs, g.Ok (tabOf gs ks) P) (hd : ∀ g ∈ gs, g.d.at_ = (g.d.name, none) ∧ g.d.dfl = [] ∧ g.d.kwd = []) (hks : ∀ x t, Kon.str x t ∈ ks → t.length ≤ line)
    (hm : g ∈ gs) (hname : g.d.name = d.name) (hps : g.ps = [x]) (hrun : Runs P k g.f most) :
    PySem.W.WalkO q loose XP (He.hookD n (faOf gs ks) (gs.map GD.d)).says l.row.toRowW d [] (fun f vs => PySem.call f vs) := by
  refine Att.attach_callB hn hdf fun w s₀ s₁ mg mb fa o pm cd doc a vs ns G Y ho hdat hcd hmg hobj hints hlen hbits hgen => ?_
  obtain ⟨K, KX, c⟩ := Y
  have wd := wd_of KX G.T.g c hd hks
  have e : fa = He.ga K g.d.name := by
    have q := wd.glo g hm
    rw [hname, hmg] at q
    cases q
    rw [hname]
  obtain ⟨fd, F⟩ := wd.def_ g hm
  obtain ⟨μ, hr⟩ := hrun ns hlen hbits
  have hb : ∀ (t : Shared) (u : Value), BindsTo t fd ⟨[u], []⟩ [(x, u)] := fun t u => by
    have z := F.bindsA (ps := g.ps) (hg g hm).bind t [u] (by rw [hps]; rfl)
    rw [hps] at z
    exact z
  refine law_callG (x := x) (sp := sG K mg (ctxN P "" k) g.f) KX G.T.g G.T.b G.T.builtins G.T.nolimit hgen hobj hints (Nat.le_trans hlen hn2) room (fun base hb1 hb2 => ?_) hb fun H _ sq => sp_of_run hr sq
  rw [e, ← hps]
  exact fnO_all wd hg k g hm fd F
end G
namespace Pl
open G
def f_followers : Fn := ⟨1, 1, (.cons (.ite (.cmp .eq (.idx (.var 0) (.lit (.int 0))) (.lit (.str ['t', 'a', 's', 'k']))) (.cons (.ret (.lst (.cons (.idx (.var 0) (.lit (.int 1))) .nil))) .nil) .nil) (.cons (.ite (.cmp .eq (.idx (.var 0) (.lit (.int 0))) (.lit (.str ['r', 'e', 's', 'o', 'u', 'r', 'c', 'e']))) (.cons (.ret (.lst (.cons (.idx (.var 0) (.lit (.int 2))) .nil))) .nil) .nil) (.cons (.ite (.cmp .eq (.idx (.var 0) (.lit (.int 0))) (.lit (.str ['s', 'c', 'o', 'p', 'e']))) (.cons (.ret (.blt .list (.cons (.idx (.var 0) (.lit (.int 2))) .nil))) .nil) .nil) (.cons (.ret (.lst .nil)) .nil))))⟩
def f_circle_from : Fn := ⟨7, 2, (.cons (.asg (.name 2) (.lst (.cons (.lst (.cons (.var 1) .nil)) .nil))) (.cons (.asg (.name 3) (.lst (.cons (.var 1) .nil))) (.cons (.whil (.var 2) (.cons (.asg (.name 4) (.lst .nil)) (.cons (.for (.name 5) (.seq (.var 2)) (.cons (.for (.name 6) (.seq (.bm (.var 0) .get (.cons (.idx (.var 5) (.neg (.lit (.int 1)))) (.cons (.lst .nil) .nil)))) (.cons (.ite (.cmp .eq (.var 6) (.var 1)) (.cons (.ret (.var 5)) .nil) .nil) (.cons (.ite (.and (.cmp .gt (.var 6) (.var 1)) (.cmp .notin (.var 6) (.var 3))) (.cons (.expr (.bm (.var 3) .append (.cons (.var 6) .nil))) (.cons (.expr (.bm (.var 4) .append (.cons (.bin .add (.var 5) (.lst (.cons (.var 6) .nil))) .nil))) .nil)) .nil) .nil))) .nil)) (.cons (.asg (.name 2) (.var 4)) .nil)))) (.cons (.ret (.lit .non)) .nil))))⟩
def f_first_circle : Fn := ⟨5, 1, (.cons (.asg (.name 1) (.dict .nil)) (.cons (.for (.tup (.cons (.name 2) (.cons (.name 3) .nil))) (.seq (.var 0)) (.cons (.asg (.sub (.var 1) (.var 2)) (.call "followers" (.cons (.var 3) .nil))) .nil)) (.cons (.for (.name 2) (.seq (.blt .sorted (.cons (.blt .list (.cons (.var 1) .nil)) .nil))) (.cons (.asg (.name 4) (.call "circle_from" (.cons (.var 1) (.cons (.var 2) .nil)))) (.cons (.ite (.cmp .notnone (.var 4) (.lit .non)) (.cons (.ret (.var 4)) .nil) .nil) .nil))) (.cons (.ret (.lit .non)) .nil))))⟩
def f__law_cell : Fn := ⟨2, 2, (.cons (.ite (.cmp .lt (.var 1) (.blt .len (.cons (.var 0) .nil))) (.cons (.ret (.blt .abs (.cons (.blt .int (.cons (.idx (.var 0) (.var 1)) .nil)) .nil))) .nil) .nil) (.cons (.ret (.lit (.int 0))) .nil))⟩
def f__law_digits : Fn := ⟨6, 3, (.cons (.asg (.name 3) (.lst .nil)) (.cons (.asg (.name 4) (.cmp .ge (.var 0) (.bin .pow (.lit (.int 10)) (.lit (.int 18))))) (.cons (.for (.name 5) (.range (.cons (.var 2) .nil)) (.cons (.ite (.var 4) (.cons (.expr (.bm (.var 3) .append (.cons (.bin .mod (.blt .int (.cons (.var 0) .nil)) (.var 1)) .nil))) (.cons (.asg (.name 0) (.bin .fdiv (.var 0) (.var 1))) .nil)) (.cons (.expr (.bm (.var 3) .append (.cons (.bin .mod (.bin .mod (.blt .int (.cons (.bin .add (.bin .add (.bin .mul (.var 0) (.lit (.int 48271))) (.bin .mul (.bin .mul (.bin .add (.var 5) (.lit (.int 1))) (.bin .add (.var 5) (.lit (.int 5)))) (.lit (.int 69621)))) (.bin .mul (.bin .fdiv (.var 0) (.lit (.int 97))) (.var 5))) .nil)) (.lit (.int 2147483647))) (.var 1)) .nil))) .nil)) .nil)) (.cons (.ret (.var 3)) .nil))))⟩
def f__law_wait : Fn := ⟨7, 2, (.cons (.asg (.name 2) (.bin .mod (.var 0) (.lit (.int 9)))) (.cons (.asg (.name 3) (.bin .mod (.bin .fdiv (.var 0) (.lit (.int 9))) (.lit (.int 10)))) (.cons (.ite (.cmp .eq (.var 2) (.lit (.int 0))) (.cons (.ret (.tup (.cons (.lit (.str ['t', 'i', 'm', 'e'])) (.cons (.var 3) .nil)))) .nil) .nil) (.cons (.ite (.cmp .lt (.var 2) (.lit (.int 4))) (.cons (.ret (.tup (.cons (.lit (.str ['t', 'a', 's', 'k'])) (.cons (.var 3) .nil)))) .nil) .nil) (.cons (.ite (.cmp .eq (.var 2) (.lit (.int 4))) (.cons (.ret (.tup (.cons (.lit (.str ['s', 'e', 'n', 'd'])) (.cons (.var 3) .nil)))) .nil) .nil) (.cons (.ite (.cmp .eq (.var 2) (.lit (.int 5))) (.cons (.ret (.tup (.cons (.lit (.str ['r', 'e', 's', 'o', 'u', 'r', 'c', 'e'])) (.cons (.bin .mod (.var 3) (.lit (.int 8))) (.cons (.bin .mod (.bin .fdiv (.var 0) (.lit (.int 90))) (.lit (.int 10))) .nil))))) .nil) .nil) (.cons (.ite (.cmp .eq (.var 2) (.lit (.int 6))) (.cons (.ret (.tup (.cons (.lit (.str ['s', 'e', 'l', 'e', 'c', 't'])) (.cons (.lst (.cons (.tup (.cons (.lit (.str ['r', 'e', 'c', 'e', 'i', 'v', 'e'])) (.cons (.var 3) .nil))) .nil)) .nil)))) .nil) .nil) (.cons (.ite (.cmp .eq (.var 2) (.lit (.int 7))) (.cons (.ret (.tup (.cons (.lit (.str ['r', 'e', 'c', 'e', 'i', 'v', 'e'])) (.cons (.var 3) .nil)))) .nil) .nil) (.cons (.asg (.name 4) (.lc (.name 6) (.range (.cons (.lit (.int 10)) .nil)) (.var 6) (.cons (.cmp .eq (.bin .mod (.bin .fdiv (.var 0) (.bin .mul (.lit (.int 90)) (.bin .add (.var 6) (.lit (.int 1))))) (.lit (.int 3))) (.lit (.int 0))) .nil) [5, 6])) (.cons (.ret (.tup (.cons (.lit (.str ['s', 'c', 'o', 'p', 'e'])) (.cons (.var 3) (.cons (.var 4) .nil))))) .nil))))))))))⟩
def f__law_next : Fn := ⟨1, 1, (.cons (.ite (.cmp .eq (.idx (.var 0) (.lit (.int 0))) (.lit (.str ['t', 'a', 's', 'k']))) (.cons (.ret (.lst (.cons (.idx (.var 0) (.lit (.int 1))) .nil))) .nil) .nil) (.cons (.ite (.cmp .eq (.idx (.var 0) (.lit (.int 0))) (.lit (.str ['r', 'e', 's', 'o', 'u', 'r', 'c', 'e']))) (.cons (.ret (.lst (.cons (.idx (.var 0) (.lit (.int 2))) .nil))) .nil) .nil) (.cons (.ite (.cmp .eq (.idx (.var 0) (.lit (.int 0))) (.lit (.str ['s', 'c', 'o', 'p', 'e']))) (.cons (.ret (.blt .list (.cons (.idx (.var 0) (.lit (.int 2))) .nil))) .nil) .nil) (.cons (.ret (.lst .nil)) .nil))))⟩
def f__law_ways : Fn := ⟨8, 3, (.cons (.asg (.name 3) (.lst (.cons (.lst (.cons (.var 1) .nil)) .nil))) (.cons (.for (.name 4) (.range (.cons (.bin .sub (.var 2) (.lit (.int 1))) .nil)) (.cons (.asg (.name 5) (.lst .nil)) (.cons (.for (.name 6) (.seq (.var 3)) (.cons (.for (.name 7) (.seq (.idx (.var 0) (.idx (.var 6) (.bin .sub (.blt .len (.cons (.var 6) .nil)) (.lit (.int 1)))))) (.cons (.ite (.and (.cmp .gt (.var 7) (.var 1)) (.and (.cmp .isin (.var 7) (.var 0)) (.cmp .notin (.var 7) (.var 6)))) (.cons (.expr (.bm (.var 5) .append (.cons (.bin .add (.var 6) (.lst (.cons (.var 7) .nil))) .nil))) .nil) .nil) .nil)) .nil)) (.cons (.asg (.name 3) (.var 5)) .nil)))) (.cons (.ret (.var 3)) .nil)))⟩
def f__law_circle : Fn := ⟨9, 1, (.cons (.asg (.name 1) (.dict .nil)) (.cons (.for (.tup (.cons (.name 2) (.cons (.name 3) .nil))) (.seq (.var 0)) (.cons (.asg (.sub (.var 1) (.var 2)) (.call "_law_next" (.cons (.var 3) .nil))) .nil)) (.cons (.for (.name 4) (.seq (.blt .sorted (.cons (.blt .list (.cons (.var 1) .nil)) .nil))) (.cons (.for (.name 5) (.range (.cons (.lit (.int 1)) (.cons (.bin .add (.blt .len (.cons (.var 0) .nil)) (.lit (.int 1))) .nil))) (.cons (.asg (.name 6) (.lc (.name 8) (.seq (.call "_law_ways" (.cons (.var 1) (.cons (.var 4) (.cons (.var 5) .nil))))) (.var 8) (.cons (.cmp .isin (.var 4) (.idx (.var 1) (.idx (.var 8) (.bin .sub (.blt .len (.cons (.var 8) .nil)) (.lit (.int 1)))))) .nil) [7, 8])) (.cons (.ite (.cmp .gt (.blt .len (.cons (.var 6) .nil)) (.lit (.int 0))) (.cons (.ret (.idx (.blt .sorted (.cons (.var 6) .nil)) (.lit (.int 0)))) .nil) .nil) .nil))) .nil)) (.cons (.ret (.lit .non)) .nil))))⟩
def f_law : Fn := ⟨11, 1, (.cons (.for (.name 1) (.range (.cons (.blt .min (.cons (.bin .add (.lit (.int 1)) (.blt .len (.cons (.var 0) .nil))) (.cons (.lit (.int 8)) .nil))) .nil)) (.cons (.asg (.name 2) (.bin .add (.call "_law_cell" (.cons (.var 0) (.cons (.var 1) .nil))) (.var 1))) (.cons (.asg (.name 3) (.call "_law_digits" (.cons (.bin .fdiv (.var 2) (.lit (.int 3))) (.cons (.lit (.int 27720)) (.cons (.lit (.int 10)) .nil))))) (.cons (.asg (.name 4) (.lst .nil)) (.cons (.for (.name 5) (.range (.cons (.lit (.int 10)) .nil)) (.cons (.ite (.and (.cmp .gt (.bin .mod (.bin .fdiv (.idx (.var 3) (.var 5)) (.lit (.int 5040))) (.lit (.int 5))) (.lit (.int 0))) (.cmp .lt (.blt .len (.cons (.var 4) .nil)) (.lit (.int 8)))) (.cons (.expr (.bm (.var 4) .append (.cons (.tup (.cons (.var 5) (.cons (.call "_law_wait" (.cons (.idx (.var 3) (.var 5)) (.cons (.var 5) .nil))) .nil))) .nil))) .nil) .nil) .nil)) (.cons (.ite (.cmp .eq (.bin .mod (.var 2) (.lit (.int 4))) (.lit (.int 0))) (.cons (.asg (.name 4) (.slc (.lc (.name 5) (.range (.cons (.lit (.int 10)) .nil)) (.tup (.cons (.var 5) (.cons (.tup (.cons (.lit (.str ['t', 'a', 's', 'k'])) (.cons (.bin .mod (.blt .int (.cons (.bin .add (.bin .mul (.var 5) (.lit (.int 3))) (.var 2)) .nil)) (.lit (.int 10))) .nil))) .nil))) .nil [10, 5]) .none (.some (.lit (.int 8))))) .nil) .nil) (.cons (.asg (.name 6) (.blt .repr (.cons (.var 4) .nil))) (.cons (.asg (.name 7) (.call "first_circle" (.cons (.var 4) .nil))) (.cons (.asg (.name 8) (.call "_law_circle" (.cons (.var 4) .nil))) (.cons (.ite (.or (.cmp .ne (.blt .repr (.cons (.var 4) .nil)) (.var 6)) (.cmp .ne (.blt .repr (.cons (.var 7) .nil)) (.blt .repr (.cons (.var 8) .nil)))) (.cons (.ret (.lit (.bl false))) .nil) .nil) (.cons (.ite (.cmp .notnone (.var 7) (.lit .non)) (.cons (.ite (.not (.isi (.var 7) [.list])) (.cons (.ret (.lit (.bl false))) .nil) .nil) (.cons (.asg (.name 9) (.call "first_circle" (.cons (.var 4) .nil))) (.cons (.expr (.bm (.var 7) .append (.cons (.lit (.int 11)) .nil))) (.cons (.ite (.or (.cmp .ne (.var 9) (.var 8)) (.cmp .ne (.call "first_circle" (.cons (.var 4) .nil)) (.var 8))) (.cons (.ret (.lit (.bl false))) .nil) .nil) .nil)))) .nil) .nil))))))))))) (.cons (.ret (.cmp .isnone (.call "first_circle" (.cons (.lst .nil) .nil)) (.lit .non))) .nil))⟩
def fns : String → Option Fn := fun f =>
  if f = "followers" then some f_followers else
  if f = "circle_from" then some f_circle_from else
  if f = "first_circle" then some f_first_circle else
  if f = "_law_cell" then some f__law_cell else
  if f = "_law_digits" then some f__law_digits else
  if f = "_law_wait" then some f__law_wait else
  if f = "_law_next" then some f__law_next else
  if f = "_law_ways" then some f__law_ways else
  if f = "_law_circle" then some f__law_circle else
  if f = "law" then some f_law else
  none
def P : Prog := ⟨fns, 100000, fun f => (f != "circle_from"), fun _ _ => false⟩
end Pl
set_option Elab.async false
set_option linter.all false
namespace C65
/-! ### ways and circles, in plain -/
def last (p : List Int) : Int := p.getLastD 0
theorem last_snoc (p : List Int) (x : Int) : last (p ++ [x]) = x := by simp [last, List.getLastD_eq_getLast?]
def ltR : List Int → List Int → Bool
  | [], [] => false
  | [], _ :: _ => true
  | _ :: _, [] => false
  | x :: xs, y :: ys => if x = y then ltR xs ys else decide (x < y)
theorem ltR_asym : ∀ p q : List Int, ltR p q = true → ltR q p = false
  | [], [], h => by simp [ltR] at h
  | [], _ :: _, _ => rfl
  | _ :: _, [], h => by simp [ltR] at h
  | x :: xs, y :: ys, h => by
    unfold ltR at *
    by_cases e : x = y
    · rw [if_pos e] at h; rw [if_pos e.symm]; exact ltR_asym xs ys h
    · rw [if_neg e] at h; rw [if_neg (Ne.symm e)]
      have := of_decide_eq_true h
      exact decide_eq_false (by omega)
theorem ltR_irr (p : List Int) : ltR p p = false := by
  cases h : ltR p p with
  | false => rfl
  | true => exact absurd (ltR_asym p p h) (by rw [h]; decide)
theorem ltR_ext : ∀ (p q : List Int) (a b : List Int), p.length = q.length → ltR p q = true → ltR (p ++ a) (q ++ b) = true
  | [], [], _, _, _, h => by simp [ltR] at h
  | [], _ :: _, _, _, hl, _ => by simp at hl
  | _ :: _, [], _, _, hl, _ => by simp at hl
  | x :: xs, y :: ys, a, b, hl, h => by
    unfold ltR at h
    show ltR (x :: (xs ++ a)) (y :: (ys ++ b)) = true
    unfold ltR
    by_cases e : x = y
    · rw [if_pos e] at h ⊢; exact ltR_ext xs ys a b (by simpa using hl) h
    · rw [if_neg e] at h ⊢; exact h
theorem ltR_same : ∀ (p : List Int) (a b : Int), a < b → ltR (p ++ [a]) (p ++ [b]) = true
  | [], a, b, h => by
    show ltR [a] [b] = true
    unfold ltR
    rw [if_neg (by omega)]; exact decide_eq_true h
  | x :: p, a, b, h => by
    show ltR (x :: (p ++ [a])) (x :: (p ++ [b])) = true
    unfold ltR
    rw [if_pos rfl]; exact ltR_same p a b h
/-! ### lists -/
theorem find_sub {α : Type} {q1 q2 : α → Bool} : ∀ {l : List α} {p : α}, l.find? q1 = some p → q2 p = true → (∀ x ∈ l, q2 x = true → q1 x = true) → l.find? q2 = some p
  | [], _, h, _, _ => by simp at h
  | a :: l, p, h, h2, hi => by
    rw [List.find?_cons] at h ⊢
    cases e1 : q1 a with
    | true =>
      rw [e1] at h
      cases h
      rw [h2]
    | false =>
      rw [e1] at h
      have : q2 a = false := by
        cases e2 : q2 a with
        | false => rfl
        | true => rw [hi a List.mem_cons_self e2] at e1; cases e1
      rw [this]
      exact find_sub h h2 fun x hx => hi x (List.mem_cons_of_mem _ hx)
theorem find_sublist {α : Type} {q : α → Bool} {l m : List α} {p : α} (s : l.Sublist m) (nd : m.Nodup) (h : m.find? q = some p) (hp : p ∈ l) : l.find? q = some p := by
  induction s with
  | slnil => simp at hp
  | cons a s ih =>
    rw [List.nodup_cons] at nd
    rw [List.find?_cons] at h
    cases e : q a with
    | true =>
      rw [e] at h
      cases h
      exact absurd (s.subset hp) nd.1
    | false =>
      rw [e] at h
      exact ih nd.2 h hp
  | cons_cons a s ih =>
    rw [List.nodup_cons] at nd
    rw [List.find?_cons] at h ⊢
    cases e : q a with
    | true => rw [e] at h; exact h
    | false =>
      rw [e] at h
      refine ih nd.2 h ?_
      rcases List.mem_cons.mp hp with rfl | hp
      · have := List.find?_some h
        rw [e] at this; cases this
      · exact hp
theorem find_congr {α : Type} {q1 q2 : α → Bool} : ∀ {l : List α}, (∀ x ∈ l, q1 x = q2 x) → l.find? q1 = l.find? q2
  | [], _ => rfl
  | a :: l, h => by
    rw [List.find?_cons, List.find?_cons, h a List.mem_cons_self, find_congr fun x hx => h x (List.mem_cons_of_mem _ hx)]
theorem find_filter {α : Type} {q c : α → Bool} : ∀ {l : List α}, (∀ x ∈ l, q x = true → c x = true) → (l.filter c).find? q = l.find? q
  | [], _ => rfl
  | a :: l, h => by
    have ih := find_filter (l := l) fun x hx => h x (List.mem_cons_of_mem _ hx)
    rw [List.filter_cons, List.find?_cons]
    cases e : c a with
    | true => rw [if_pos rfl, List.find?_cons, ih]
    | false =>
      rw [if_neg (by simp), ih]
      cases e2 : q a with
      | false => rfl
      | true => rw [h a List.mem_cons_self e2] at e; cases e
theorem sublist_flatMap {α β : Type} {f : α → List β} {l m : List α} (s : l.Sublist m) : (l.flatMap f).Sublist (m.flatMap f) := by
  induction s with
  | slnil => exact List.Sublist.refl _
  | cons a s ih => rw [List.flatMap_cons]; exact ih.trans (List.sublist_append_right _ _)
  | cons_cons a s ih => rw [List.flatMap_cons, List.flatMap_cons]; exact (List.Sublist.refl _).append ih
theorem pigeonI : ∀ {a b : List Int}, a.Nodup → (∀ x ∈ a, x ∈ b) → a.length ≤ b.length
  | [], _, _, _ => Nat.zero_le _
  | x :: a, b, hn, h => by
    rw [List.nodup_cons] at hn
    have hx := h x List.mem_cons_self
    have := pigeonI (a := a) (b := b.erase x) hn.2 fun y hy => by
      have hne : y ≠ x := fun e => hn.1 (e ▸ hy)
      exact (List.mem_erase_of_ne hne).mpr (h y (List.mem_cons_of_mem _ hy))
    rw [List.length_erase_of_mem hx] at this
    have hpos : 0 < b.length := List.length_pos_of_mem hx
    simp only [List.length_cons]
    omega
section
variable (succ : Int → List Int) (key : Int → Bool) (first : Int)
def ext1 (w : List Int) : List (List Int) := ((succ (last w)).filter fun o => decide (o > first) && key o && !w.contains o).map fun o => w ++ [o]
def W : Nat → List (List Int)
  | 0 => [[first]]
  | n + 1 => (W n).flatMap (ext1 succ key first)
def close (p : List Int) : Bool := (succ (last p)).contains first
/-! ### breadth first -/
def scanF (p : List Int) : List Int → List Int → List (List Int) → Sum (List Int) (List Int × List (List Int))
  | [], S, L => .inr (S, L)
  | f :: r, S, L => if f = first then .inl p else if f > first ∧ f ∉ S then scanF p r (S ++ [f]) (L ++ [p ++ [f]]) else scanF p r S L
def scan : List (List Int) → List Int → List (List Int) → Sum (List Int) (List Int × List (List Int))
  | [], S, L => .inr (S, L)
  | p :: r, S, L => match scanF first p (succ (last p)) S L with
    | .inl q => .inl q
    | .inr (S', L') => scan r S' L'
def bfs : Nat → List (List Int) → List Int → Option (List Int)
  | 0, _, _ => none
  | m + 1, B, S => if B = [] then none else match scan succ first B S [] with
    | .inl p => some p
    | .inr (S', L) => bfs m L S'
structure Ok : Prop where
  asc : ∀ x, (succ x).Pairwise (· < ·)
  nokey : ∀ x, key x = false → succ x = []
  fkey : key first = true
variable {succ key first}
/-! ### what a scan gives -/
structure Scanned (B : List (List Int)) (S : List Int) (S' : List Int) (L : List (List Int)) : Prop where
  seen : ∃ N, S' = S ++ N
  sub : ∀ c : Int → Bool, (L.filter fun w => c (last w)).Sublist (B.flatMap fun p => ((succ (last p)).filter fun o => decide (o > first) && c o && !S.contains o).map fun o => p ++ [o])
  all : ∀ p ∈ B, ∀ f ∈ succ (last p), f > first → f ∈ S'
  new : ∀ x ∈ S', x ∈ S ∨ ∃ w ∈ L, last w = x
  of : ∀ w ∈ L, ∃ p ∈ B, ∃ f ∈ succ (last p), w = p ++ [f] ∧ f > first ∧ f ∉ S ∧ f ∈ S'
  fst : ∀ v, v > first → v ∉ S → ∀ p, B.find? (fun p => (succ (last p)).contains v) = some p → p ++ [v] ∈ L
  nd : S.Nodup → S'.Nodup
  grow : S.length + L.length = S'.length
theorem scanF_ok (p : List Int) : ∀ (fs S : List Int) (L0 : List (List Int)), fs.Pairwise (· < ·) → first ∉ fs → ∃ N : List Int, scanF first p fs S L0 = .inr (S ++ N, L0 ++ N.map fun o => p ++ [o]) ∧ N = fs.filter (fun o => decide (o > first) && !S.contains o)
  | [], S, L0, _, _ => ⟨[], by simp [scanF], rfl⟩
  | f :: r, S, L0, ha, hf => by
    have hne : ¬ f = first := fun e => hf (by simp [e])
    have hr : first ∉ r := fun h => hf (List.mem_cons_of_mem _ h)
    rw [List.pairwise_cons] at ha
    unfold scanF
    rw [if_neg hne]
    by_cases hc : f > first ∧ f ∉ S
    · rw [if_pos hc]
      obtain ⟨N, h1, h2⟩ := scanF_ok p r (S ++ [f]) (L0 ++ [p ++ [f]]) ha.2 hr
      refine ⟨f :: N, by rw [h1]; simp, ?_⟩
      have hg : first < f := hc.1
      rw [List.filter_cons, if_pos (by simpa [hc.2] using hg), h2]
      congr 1
      refine List.filter_congr fun o ho => ?_
      have hof : o ≠ f := by have := ha.1 o ho; omega
      simp [hof]
    · rw [if_neg hc]
      obtain ⟨N, h1, h2⟩ := scanF_ok p r S L0 ha.2 hr
      refine ⟨N, h1, ?_⟩
      rw [List.filter_cons, if_neg (by simpa using fun h h' => hc ⟨h, h'⟩), h2]
theorem scanF_in (p : List Int) : ∀ (fs S : List Int) (L0 : List (List Int)), first ∈ fs → scanF first p fs S L0 = .inl p
  | [], _, _, h => by simp at h
  | f :: r, S, L0, h => by
    unfold scanF
    by_cases e : f = first
    · rw [if_pos e]
    · rw [if_neg e]
      have hr : first ∈ r := by
        rcases List.mem_cons.mp h with h | h
        · exact absurd h.symm e
        · exact h
      split <;> exact scanF_in p r _ _ hr
theorem flatMap_mono {α β : Type} {f g : α → List β} : ∀ {l : List α}, (∀ x ∈ l, (f x).Sublist (g x)) → (l.flatMap f).Sublist (l.flatMap g)
  | [], _ => List.Sublist.refl _
  | a :: l, h => by
    rw [List.flatMap_cons, List.flatMap_cons]
    exact (h a List.mem_cons_self).append (flatMap_mono fun x hx => h x (List.mem_cons_of_mem _ hx))
theorem filter_mono {α : Type} {q1 q2 : α → Bool} (l : List α) (h : ∀ x ∈ l, q1 x = true → q2 x = true) : (l.filter q1).Sublist (l.filter q2) := by
  have e : l.filter q1 = (l.filter q2).filter q1 := by
    rw [List.filter_filter]
    refine List.filter_congr fun x hx => ?_
    cases e : q1 x with
    | false => simp
    | true => simp [h x hx e]
  rw [e]
  exact List.filter_sublist
theorem scan_in : ∀ (B : List (List Int)) (S : List Int) (L0 : List (List Int)) (p : List Int), (∀ x, (succ x).Pairwise (· < ·)) → B.find? (close succ first) = some p → scan succ first B S L0 = .inl p
  | [], _, _, _, _, h => by simp at h
  | b :: B, S, L0, p, ha, h => by
    rw [List.find?_cons] at h
    unfold scan
    cases e : close succ first b with
    | true =>
      rw [e] at h
      cases h
      rw [scanF_in b _ S L0 (by simpa [close] using e)]
    | false =>
      rw [e] at h
      obtain ⟨N, h1, _⟩ := scanF_ok (first := first) b (succ (last b)) S L0 (ha _) (by simpa [close] using e)
      rw [h1]
      exact scan_in B _ _ p ha h
theorem scan_ok : ∀ (B : List (List Int)) (S : List Int) (L0 : List (List Int)), (∀ x, (succ x).Pairwise (· < ·)) → B.find? (close succ first) = none → ∃ S' L, scan succ first B S L0 = .inr (S', L0 ++ L) ∧ Scanned (succ := succ) (first := first) B S S' L
  | [], S, L0, _, _ => ⟨S, [], by simp [scan], ⟨[], by simp⟩, fun c => by simp, fun p hp => by simp at hp, fun x h => .inl h, fun w h => by simp at h, fun v _ _ p h => by simp at h, fun h => h, by simp⟩
  | b :: B, S, L0, ha, h => by
    rw [List.find?_cons] at h
    cases e : close succ first b with
    | true => rw [e] at h; cases h
    | false =>
      rw [e] at h
      obtain ⟨N, h1, hN⟩ := scanF_ok (first := first) b (succ (last b)) S L0 (ha _) (by simpa [close] using e)
      obtain ⟨S', L', h2, I⟩ := scan_ok B (S ++ N) (L0 ++ N.map fun o => b ++ [o]) ha h
      have memN : ∀ x, x ∈ N ↔ x ∈ succ (last b) ∧ x > first ∧ x ∉ S := fun x => by rw [hN, List.mem_filter]; simp
      have sub1 : ∀ x, x ∈ S ++ N → x ∈ S' := fun x hx => by
        obtain ⟨M, hM⟩ := I.seen
        rw [hM]; exact List.mem_append_left _ hx
      refine ⟨S', (N.map fun o => b ++ [o]) ++ L', ?_, ?_⟩
      · unfold scan
        rw [h1, ← List.append_assoc]
        exact h2
      · refine ⟨?_, fun c => ?_, fun p hp f hf hg => ?_, fun x hx => ?_, fun w hw => ?_, fun v hv hs p hp => ?_, fun hn => ?_, ?_⟩
        · obtain ⟨M, hM⟩ := I.seen
          exact ⟨N ++ M, by rw [hM, List.append_assoc]⟩
        · rw [List.filter_append, List.flatMap_cons]
          refine List.Sublist.append ?_ ((I.sub c).trans (flatMap_mono fun p _ => List.Sublist.map _ (filter_mono _ fun x _ hx => ?_)))
          · rw [List.filter_map, hN, List.filter_filter]
            refine List.Sublist.map _ (filter_mono _ fun x _ hx => ?_)
            simp only [Function.comp, last_snoc, Bool.and_eq_true] at hx ⊢
            exact ⟨⟨hx.2.1, hx.1⟩, hx.2.2⟩
          · simp only [Bool.and_eq_true, Bool.not_eq_true', List.contains_eq_mem, decide_eq_false_iff_not, List.mem_append, not_or] at hx ⊢
            exact ⟨hx.1, hx.2.1⟩
        · rcases List.mem_cons.mp hp with rfl | hp
          · by_cases hs : f ∈ S
            · exact sub1 _ (List.mem_append_left _ hs)
            · exact sub1 _ (List.mem_append_right _ ((memN f).mpr ⟨hf, hg, hs⟩))
          · exact I.all p hp f hf hg
        · rcases I.new x hx with h | ⟨w, hw, e⟩
          · rcases List.mem_append.mp h with h | h
            · exact .inl h
            · exact .inr ⟨b ++ [x], List.mem_append_left _ (List.mem_map.mpr ⟨x, h, rfl⟩), last_snoc _ _⟩
          · exact .inr ⟨w, List.mem_append_right _ hw, e⟩
        · rcases List.mem_append.mp hw with h | h
          · obtain ⟨x, hx, rfl⟩ := List.mem_map.mp h
            obtain ⟨a1, a2, a3⟩ := (memN x).mp hx
            exact ⟨b, List.mem_cons_self, x, a1, rfl, a2, a3, sub1 _ (List.mem_append_right _ hx)⟩
          · obtain ⟨p, hp, f, hf, e, hg, hs, hs'⟩ := I.of w h
            exact ⟨p, List.mem_cons_of_mem _ hp, f, hf, e, hg, fun q => hs (List.mem_append_left _ q), hs'⟩
        · rw [List.find?_cons] at hp
          cases e2 : (succ (last b)).contains v with
          | true =>
            rw [e2] at hp
            cases hp
            exact List.mem_append_left _ (List.mem_map.mpr ⟨v, (memN v).mpr ⟨by simpa using e2, hv, hs⟩, rfl⟩)
          | false =>
            rw [e2] at hp
            have hvN : v ∉ S ++ N := fun q => by
              rcases List.mem_append.mp q with q | q
              · exact hs q
              · have := ((memN v).mp q).1
                simp at e2
                exact e2 this
            exact List.mem_append_right _ (I.fst v hv hvN p hp)
        · refine I.nd ?_
          rw [List.nodup_append]
          refine ⟨hn, ?_, fun x hx y hy e => ?_⟩
          · rw [hN]
            exact (show (succ (last b)).Pairwise (· ≠ ·) from (ha (last b)).imp fun h => by omega).filter _
          · subst e
            exact ((memN x).mp hy).2.2 hx
        · have := I.grow
          simp only [List.length_append, List.length_map] at this ⊢
          omega
/-! ### the ways -/
theorem mem_ext1 {w q : List Int} : q ∈ ext1 succ key first w ↔ ∃ o ∈ succ (last w), o > first ∧ key o = true ∧ o ∉ w ∧ q = w ++ [o] := by
  unfold ext1
  rw [List.mem_map]
  constructor
  · rintro ⟨o, h, rfl⟩
    rw [List.mem_filter] at h
    simp only [Bool.and_eq_true, decide_eq_true_eq, Bool.not_eq_true', List.contains_eq_mem, decide_eq_false_iff_not] at h
    exact ⟨o, h.1, h.2.1.1, h.2.1.2, h.2.2, rfl⟩
  · rintro ⟨o, h1, h2, h3, h4, rfl⟩
    refine ⟨o, ?_, rfl⟩
    rw [List.mem_filter]
    simp only [Bool.and_eq_true, decide_eq_true_eq, Bool.not_eq_true', List.contains_eq_mem, decide_eq_false_iff_not]
    exact ⟨h1, ⟨h2, h3⟩, h4⟩
theorem mem_W {n : Nat} {q : List Int} : q ∈ W succ key first (n + 1) ↔ ∃ w ∈ W succ key first n, ∃ o ∈ succ (last w), o > first ∧ key o = true ∧ o ∉ w ∧ q = w ++ [o] := by
  show q ∈ (W succ key first n).flatMap _ ↔ _
  rw [List.mem_flatMap]
  exact ⟨fun ⟨w, hw, h⟩ => ⟨w, hw, mem_ext1.mp h⟩, fun ⟨w, hw, h⟩ => ⟨w, hw, mem_ext1.mpr h⟩⟩
theorem W_len : ∀ (n : Nat) (w : List Int), w ∈ W succ key first n → w.length = n + 1
  | 0, w, h => by simp [W] at h; subst h; rfl
  | n + 1, w, h => by
    obtain ⟨p, hp, o, _, _, _, _, rfl⟩ := mem_W.mp h
    have := W_len n p hp
    simp [this]
theorem W_nd : ∀ (n : Nat) (w : List Int), w ∈ W succ key first n → w.Nodup
  | 0, w, h => by simp [W] at h; subst h; simp
  | n + 1, w, h => by
    obtain ⟨p, hp, o, _, _, _, ho, rfl⟩ := mem_W.mp h
    rw [List.nodup_append]
    exact ⟨W_nd n p hp, by simp, fun x hx y hy e => by simp at hy; subst hy; subst e; exact ho hx⟩
theorem W_key (hk : key first = true) : ∀ (n : Nat) (w : List Int), w ∈ W succ key first n → ∀ x ∈ w, key x = true
  | 0, w, h, x, hx => by simp [W] at h; subst h; simp at hx; subst hx; exact hk
  | n + 1, w, h, x, hx => by
    obtain ⟨p, hp, o, _, _, ko, _, rfl⟩ := mem_W.mp h
    rcases List.mem_append.mp hx with hx | hx
    · exact W_key hk n p hp x hx
    · simp at hx; subst hx; exact ko
theorem W_pre : ∀ (n : Nat) (w : List Int), w ∈ W succ key first n → ∀ x ∈ w, ∃ j ≤ n, ∃ y ∈ W succ key first j, last y = x
  | 0, w, h, x, hx => by
    simp [W] at h
    subst h
    simp at hx
    exact ⟨0, Nat.le_refl _, [first], by simp [W], by rw [hx]; rfl⟩
  | n + 1, w, h, x, hx => by
    have hw := h
    obtain ⟨p, hp, o, _, _, _, _, rfl⟩ := mem_W.mp h
    rcases List.mem_append.mp hx with hx | hx
    · obtain ⟨j, hj, y, hy, e⟩ := W_pre n p hp x hx
      exact ⟨j, by omega, y, hy, e⟩
    · simp at hx
      exact ⟨n + 1, Nat.le_refl _, _, hw, by rw [last_snoc, hx]⟩
theorem W_asc (ha : ∀ x, (succ x).Pairwise (· < ·)) : ∀ n : Nat, (W succ key first n).Pairwise fun p q => ltR p q = true
  | 0 => by simp [W]
  | n + 1 => by
    show ((W succ key first n).flatMap _).Pairwise _
    rw [List.pairwise_flatMap]
    refine ⟨fun w _ => ?_, (List.Pairwise.and_mem.mp (W_asc ha n)).imp fun {p q} h x hx y hy => ?_⟩
    · unfold ext1
      rw [List.pairwise_map]
      exact ((ha (last w)).filter _).imp fun h => ltR_same _ _ _ h
    · obtain ⟨o, _, _, _, _, rfl⟩ := mem_ext1.mp hx
      obtain ⟨o', _, _, _, _, rfl⟩ := mem_ext1.mp hy
      exact ltR_ext _ _ _ _ (by rw [W_len _ _ h.1, W_len _ _ h.2.1]) h.2.2
theorem W_nodup (ha : ∀ x, (succ x).Pairwise (· < ·)) (n : Nat) : (W succ key first n).Nodup := (W_asc ha n).imp fun {p q} h e => by
  subst e
  rw [ltR_irr] at h
  cases h
/-- the first way to v, from the first way on -/
theorem W_find {n : Nat} {v : Int} (hv : v > first) (hk : key v = true) : ∀ {l : List (List Int)}, (∀ p ∈ l, v ∉ p) → (∀ x, (succ x).Pairwise (· < ·)) → (l.flatMap (ext1 succ key first)).find? (fun w => last w == v) = (l.find? fun p => (succ (last p)).contains v).map (· ++ [v])
  | [], _, _ => rfl
  | p :: l, h, ha => by
    rw [List.flatMap_cons, List.find?_append, List.find?_cons, W_find (n := n) hv hk (fun q hq => h q (List.mem_cons_of_mem _ hq)) ha]
    have hp := h p List.mem_cons_self
    cases e : (succ (last p)).contains v with
    | true =>
      have hm : p ++ [v] ∈ ext1 succ key first p := mem_ext1.mpr ⟨v, by simpa using e, hv, hk, hp, rfl⟩
      have : (ext1 succ key first p).find? (fun w => last w == v) = some (p ++ [v]) := by
        cases e2 : (ext1 succ key first p).find? (fun w => last w == v) with
        | none =>
          have := List.find?_eq_none.mp e2 _ hm
          simp [last_snoc] at this
        | some w =>
          have h1 := List.find?_some e2
          obtain ⟨o, _, _, _, _, rfl⟩ := mem_ext1.mp (List.mem_of_find?_eq_some e2)
          rw [last_snoc] at h1
          have : o = v := by simpa using h1
          rw [this]
      rw [this]
      rfl
    | false =>
      have : (ext1 succ key first p).find? (fun w => last w == v) = none := by
        rw [List.find?_eq_none]
        intro w hw
        obtain ⟨o, ho, _, _, _, rfl⟩ := mem_ext1.mp hw
        rw [last_snoc]
        intro e3
        have : o = v := by simpa using e3
        subst this
        simp at e
        exact e ho
      rw [this]
      rfl
/-! ### the levels -/
structure Lv (succ : Int → List Int) (key : Int → Bool) (first : Int) (k : Nat) (B : List (List Int)) (S : List Int) : Prop where
  sub : (B.filter fun p => key (last p)).Sublist (W succ key first k)
  ins : ∀ p ∈ B, ∀ x ∈ p, x ∈ S
  exp : ∀ s ∈ S, (∃ p ∈ B, last p = s) ∨ ∀ f ∈ succ s, f > first → f ∈ S
  rch : ∀ w ∈ W succ key first k, last w ∈ S
  way : ∀ s ∈ S, key s = true → ∃ j ≤ k, ∃ w ∈ W succ key first j, last w = s
  fst : ∀ v, (∀ j < k, ∀ w ∈ W succ key first j, last w ≠ v) → ∀ w, (W succ key first k).find? (fun w => last w == v) = some w → w ∈ B
  nd : S.Nodup
theorem lv0 (hk : key first = true) : Lv succ key first 0 [[first]] [first] := by
  refine ⟨?_, fun p hp x hx => ?_, fun s hs => ?_, fun w hw => ?_, fun s hs _ => ?_, fun v _ w h => ?_, by simp⟩
  · simp [W, last, List.filter_cons, hk]
  · simp at hp; subst hp; simpa using hx
  · simp at hs; subst hs; exact .inl ⟨[s], by simp, rfl⟩
  · simp [W] at hw; subst hw; simp [last]
  · simp at hs; subst hs; exact ⟨0, Nat.le_refl _, [s], by simp [W], rfl⟩
  · have := List.mem_of_find?_eq_some h
    simpa [W] using this
/-- a closing way of a level is found -/
theorem Lv.found (o : Ok succ key first) {k : Nat} {B : List (List Int)} {S : List Int} (l : Lv succ key first k B S) (no : ∀ j < k, (W succ key first j).find? (close succ first) = none) : B.find? (close succ first) = (W succ key first k).find? (close succ first) := by
  have hkey : ∀ p, close succ first p = true → key (last p) = true := fun p hp => by
    cases e : key (last p) with
    | true => rfl
    | false => simp [close, o.nokey _ e] at hp
  have e1 : B.find? (close succ first) = (B.filter fun p => key (last p)).find? (close succ first) := (find_filter fun p _ hp => hkey p hp).symm
  rw [e1]
  cases h : (W succ key first k).find? (close succ first) with
  | none =>
    rw [List.find?_eq_none] at h ⊢
    exact fun p hp => h p (l.sub.subset hp)
  | some w =>
    have hw := List.find?_some h
    refine find_sublist l.sub (W_nodup o.asc k) h ?_
    have hm : w ∈ B := by
      refine l.fst (last w) (fun j hj y hy e => ?_) w (find_sub h (by simp) fun x _ hx => ?_)
      · have := List.find?_eq_none.mp (no j hj) y hy
        unfold close at this hw
        rw [e] at this
        exact this hw
      · have hx : last x = last w := by simpa using hx
        unfold close at hw ⊢
        rw [hx]
        exact hw
    exact List.mem_filter.mpr ⟨hm, hkey w hw⟩
theorem Lv.next (o : Ok succ key first) {k : Nat} {B : List (List Int)} {S S' : List Int} {L : List (List Int)} (l : Lv succ key first k B S) (c : Scanned (succ := succ) (first := first) B S S' L) : Lv succ key first (k + 1) L S' := by
  have hS : ∀ x ∈ S, x ∈ S' := fun x hx => by obtain ⟨N, e⟩ := c.seen; rw [e]; exact List.mem_append_left _ hx
  have keyOf : ∀ {p : List Int} {f : Int}, f ∈ succ (last p) → key (last p) = true := fun {p f} hf => by
    cases e : key (last p) with
    | true => rfl
    | false => rw [o.nokey _ e] at hf; simp at hf
  have hsub : (L.filter fun w => key (last w)).Sublist (W succ key first (k + 1)) := by
    refine (c.sub key).trans ?_
    have e : (B.flatMap fun p => ((succ (last p)).filter fun o => decide (o > first) && key o && !S.contains o).map fun o => p ++ [o]) = ((B.filter fun p => key (last p)).flatMap fun p => ((succ (last p)).filter fun o => decide (o > first) && key o && !S.contains o).map fun o => p ++ [o]) := by
      clear l c
      induction B with
      | nil => rfl
      | cons p B ih =>
        rw [List.flatMap_cons, List.filter_cons]
        cases e : key (last p) with
        | true => rw [if_pos rfl, List.flatMap_cons, ih]
        | false => rw [if_neg (by simp), o.nokey _ e, ih]; rfl
    rw [e]
    refine (flatMap_mono fun p hp => ?_).trans (sublist_flatMap l.sub)
    refine List.Sublist.map _ (filter_mono _ fun x _ hx => ?_)
    simp only [Bool.and_eq_true, Bool.not_eq_true', List.contains_eq_mem, decide_eq_false_iff_not] at hx ⊢
    exact ⟨hx.1, fun q => hx.2 (l.ins p (List.mem_filter.mp hp).1 x q)⟩
  refine ⟨hsub, fun w hw x hx => ?_, fun s hs => ?_, fun w hw => ?_, fun s hs hk => ?_, fun v hno w hw => ?_, c.nd l.nd⟩
  · obtain ⟨p, hp, f, hf, rfl, hg, _, hf'⟩ := c.of w hw
    rcases List.mem_append.mp hx with hx | hx
    · exact hS _ (l.ins p hp x hx)
    · simp at hx; subst hx; exact hf'
  · rcases c.new s hs with h | h
    · rcases l.exp s h with ⟨p, hp, rfl⟩ | h
      · exact .inr fun f hf hg => c.all p hp f hf hg
      · exact .inr fun f hf hg => hS _ (h f hf hg)
    · exact .inl h
  · obtain ⟨p, hp, f, hf, hg, hk, _, rfl⟩ := mem_W.mp hw
    rw [last_snoc]
    rcases l.exp _ (l.rch p hp) with ⟨q, hq, e⟩ | h
    · exact c.all q hq f (by rw [e]; exact hf) hg
    · exact hS _ (h f hf hg)
  · rcases c.new s hs with h | ⟨w, hw, rfl⟩
    · obtain ⟨j, hj, w, hw, e⟩ := l.way s h hk
      exact ⟨j, by omega, w, hw, e⟩
    · exact ⟨k + 1, Nat.le_refl _, w, hsub.subset (List.mem_filter.mpr ⟨hw, hk⟩), rfl⟩
  · have hwm := List.mem_of_find?_eq_some hw
    have hwv := List.find?_some hw
    obtain ⟨p0, hp0, f0, hf0, hg, hk, _, e0⟩ := mem_W.mp hwm
    have hv : f0 = v := by rw [e0, last_snoc] at hwv; simpa using hwv
    subst hv
    have hnp : ∀ p ∈ W succ key first k, f0 ∉ p := fun p hp q => by
      obtain ⟨j, hj, y, hy, e⟩ := W_pre k p hp f0 q
      exact hno j (by omega) y hy e
    have hf := W_find (n := k) hg hk hnp o.asc
    have hw' : ((W succ key first k).flatMap (ext1 succ key first)).find? (fun w => last w == f0) = some w := hw
    rw [hf, Option.map_eq_some_iff] at hw'
    obtain ⟨p, hp, rfl⟩ := hw'
    have hpm := List.mem_of_find?_eq_some hp
    have hps := List.find?_some hp
    have hps' : f0 ∈ succ (last p) := by simpa using hps
    have hpB : p ∈ B := by
      refine l.fst (last p) (fun j hj y hy e => ?_) p (find_sub hp (by simp) fun x _ hx => ?_)
      · have hy2 : f0 ∉ y := fun q => by
          obtain ⟨i, hi, z, hz, e2⟩ := W_pre j y hy f0 q
          exact hno i (by omega) z hz e2
        exact hno (j + 1) (by omega) (y ++ [f0]) (mem_W.mpr ⟨y, hy, f0, by rw [e]; exact hps', hg, hk, hy2, rfl⟩) (last_snoc _ _)
      · have hx : last x = last p := by simpa using hx
        rw [hx]
        exact hps
    have hnS : f0 ∉ S := fun q => by
      obtain ⟨j, hj, y, hy, e⟩ := l.way f0 q hk
      exact hno j (by omega) y hy e
    refine c.fst f0 hg hnS p ?_
    have e1 : B.find? (fun p => (succ (last p)).contains f0) = (B.filter fun p => key (last p)).find? (fun p => (succ (last p)).contains f0) := (find_filter fun q _ hq => keyOf (by simpa using hq)).symm
    rw [e1]
    exact find_sublist l.sub (W_nodup o.asc k) hp (List.mem_filter.mpr ⟨hpB, keyOf hps'⟩)
/-- breadth first finds the first closing way of the first level that has one -/
theorem lv_end (o : Ok succ key first) {S : List Int} : ∀ (n k : Nat), Lv succ key first k [] S → (∀ j < k, (W succ key first j).find? (close succ first) = none) → ∀ j < k + n, (W succ key first j).find? (close succ first) = none
  | 0, k, _, h, j, hj => h j (by omega)
  | n + 1, k, l, h, j, hj => by
    have e := l.found o h
    have l2 : Lv succ key first (k + 1) [] S := by
      obtain ⟨S', L, e, c⟩ := scan_ok (succ := succ) (first := first) [] S [] o.asc rfl
      have hx := l.next o c
      cases e
      exact hx
    refine lv_end o n (k + 1) l2 (fun i hi => ?_) j (by omega)
    by_cases hik : i = k
    · subst hik; rw [← e]; rfl
    · exact h i (by omega)
def meas (B : List (List Int)) (S : List Int) : Nat := (if B = [] then 0 else 1) + (10 - S.length)
theorem scan_bound (c : ∀ x, ∀ y ∈ succ x, 0 ≤ y ∧ y < 10) {B L : List (List Int)} {S S' : List Int} (s : Scanned (succ := succ) (first := first) B S S' L) (hS : ∀ x ∈ S, 0 ≤ x ∧ x < 10) : ∀ x ∈ S', 0 ≤ x ∧ x < 10 := fun x hx => by
  rcases s.new x hx with h | ⟨w, hw, e⟩
  · exact hS x h
  · obtain ⟨p, _, f, hf, rfl, _⟩ := s.of w hw
    rw [last_snoc] at e
    rw [← e]
    exact c _ f hf
theorem len10 {S : List Int} (nd : S.Nodup) (hS : ∀ x ∈ S, 0 ≤ x ∧ x < 10) : S.length ≤ 10 := by
  have := pigeonI (b := [0, 1, 2, 3, 4, 5, 6, 7, 8, 9]) nd fun x hx => by
    have := hS x hx
    have : x = 0 ∨ x = 1 ∨ x = 2 ∨ x = 3 ∨ x = 4 ∨ x = 5 ∨ x = 6 ∨ x = 7 ∨ x = 8 ∨ x = 9 := by omega
    simp [this]
  simpa using this
theorem meas_less {B L : List (List Int)} {S S' : List Int} (s : Scanned (succ := succ) (first := first) B S S' L) (hB : B ≠ []) (h : S'.length ≤ 10) : meas L S' < meas B S := by
  have := s.grow
  unfold meas
  rw [if_neg hB]
  split
  · omega
  · next h =>
    have : 0 < L.length := List.length_pos_iff.mpr h
    omega
theorem bfs_ok (o : Ok succ key first) (c : ∀ x, ∀ y ∈ succ x, 0 ≤ y ∧ y < 10) : ∀ (m k : Nat) (B : List (List Int)) (S : List Int), Lv succ key first k B S → (∀ x ∈ S, 0 ≤ x ∧ x < 10) → (∀ j < k, (W succ key first j).find? (close succ first) = none) → meas B S ≤ m →
    match bfs succ first m B S with
    | some p => ∃ j, (∀ i < j, (W succ key first i).find? (close succ first) = none) ∧ (W succ key first j).find? (close succ first) = some p
    | none => ∀ j, (W succ key first j).find? (close succ first) = none
  | 0, k, B, S, l, hS, no, hm => by
    have hB : B = [] := by
      unfold meas at hm
      split at hm
      · next h => exact h
      · omega
    subst hB
    exact fun j => lv_end o (j + 1) k l no j (by omega)
  | m + 1, k, B, S, l, hS, no, hm => by
    unfold bfs
    by_cases hB : B = []
    · subst hB
      simp only [if_true]
      exact fun j => lv_end o (j + 1) k l no j (by omega)
    · rw [if_neg hB]
      have e := l.found o no
      cases hf : B.find? (close succ first) with
      | some p =>
        rw [scan_in B S [] p o.asc hf]
        exact ⟨k, no, by rw [← e, hf]⟩
      | none =>
        obtain ⟨S', L, h1, s⟩ := scan_ok (succ := succ) (first := first) B S [] o.asc hf
        rw [h1]
        have hS' := scan_bound c s hS
        have hl := meas_less s hB (len10 (s.nd l.nd) hS')
        refine bfs_ok o c m (k + 1) L S' (l.next o s) hS' (fun j hj => ?_) (by omega)
        by_cases hjk : j = k
        · subst hjk; rw [← e, hf]
        · exact no j (by omega)
end
end C65
set_option Elab.async false
set_option linter.all false
set_option maxRecDepth 100000
set_option maxHeartbeats 1000000
namespace Pl
open G
theorem run_of {n : Nat} {f : String} {ds : List D} {μ : Mem} {F : Fn} (h : fns f = some F) : run P (n + 1) f ds μ = runFn ⟨run P n, 100000, P.fr f, P.sub⟩ F ds μ := by
  simp only [run, P, h]
/-! ### reasons -/
inductive Rs where
  | task (o : Int) | res (n h : Int) | scope (s : Int) (ms : List Int) | time (o : Int) | send (o : Int) | recv (o : Int) | sel (o : Int)
def Rs.d : Rs → D
  | .task o => .tup [.str ['t', 'a', 's', 'k'], .int o]
  | .res n h => .tup [.str ['r', 'e', 's', 'o', 'u', 'r', 'c', 'e'], .int n, .int h]
  | .scope s ms => .tup [.str ['s', 'c', 'o', 'p', 'e'], .int s, .lst (ms.map D.int)]
  | .time o => .tup [.str ['t', 'i', 'm', 'e'], .int o]
  | .send o => .tup [.str ['s', 'e', 'n', 'd'], .int o]
  | .recv o => .tup [.str ['r', 'e', 'c', 'e', 'i', 'v', 'e'], .int o]
  | .sel o => .tup [.str ['s', 'e', 'l', 'e', 'c', 't'], .lst [.tup [.str ['r', 'e', 'c', 'e', 'i', 'v', 'e'], .int o]]]
def Rs.succ : Rs → List Int
  | .task o => [o]
  | .res _ h => [h]
  | .scope _ ms => ms
  | _ => []
theorem run_followers (n : Nat) (r : Rs) (μ : Mem) : run P (n + 1) "followers" [r.d] μ = .ok (.ref μ.length) (μ ++ [.lst (r.succ.map D.int)]) := by
  cases r <;> rfl
theorem run_next (n : Nat) (r : Rs) (μ : Mem) : run P (n + 1) "_law_next" [r.d] μ = .ok (.ref μ.length) (μ ++ [.lst (r.succ.map D.int)]) := by
  cases r <;> rfl
end Pl
set_option Elab.async false
set_option linter.all false
set_option maxRecDepth 100000
set_option maxHeartbeats 1000000
namespace Pl
open G
/-- lists are kept -/
def KeepL (μ μ' : Mem) : Prop := ∀ (k : Nat) (s : List D), μ[k]? = some (.lst s) → μ'[k]? = some (.lst s)
theorem Keep.l {μ μ' : Mem} (h : Keep μ μ') : KeepL μ μ' := fun k s e => h k _ e
inductive TabR (μ : Mem) : List (Key × D) → List (Int × List Int) → Prop
  | nil : TabR μ [] []
  | cons {t : Int} {k : Nat} {s : List Int} {kvs : List (Key × D)} {T : List (Int × List Int)} : μ[k]? = some (.lst (s.map D.int)) → TabR μ kvs T → TabR μ ((.inl t, .ref k) :: kvs) ((t, s) :: T)
theorem TabR.mono {μ μ' : Mem} (h : KeepL μ μ') : ∀ {kvs T}, TabR μ kvs T → TabR μ' kvs T
  | _, _, .nil => .nil
  | _, _, .cons e t => .cons (h _ _ e) (TabR.mono h t)
theorem TabR.len {μ : Mem} : ∀ {kvs T}, TabR μ kvs T → kvs.length = T.length
  | _, _, .nil => rfl
  | _, _, .cons e t => congrArg Nat.succ (TabR.len t)
theorem TabR.snoc {μ : Mem} {t : Int} {k : Nat} {s : List Int} (e : μ[k]? = some (.lst (s.map D.int))) : ∀ {kvs T}, TabR μ kvs T → TabR μ (kvs ++ [(.inl t, .ref k)]) (T ++ [(t, s)])
  | _, _, .nil => .cons e .nil
  | _, _, .cons e' t => .cons e' (TabR.snoc e t)
theorem TabR.get {μ : Mem} {x : Int} : ∀ {kvs T}, TabR μ kvs T → match T.lookup x with
    | some s => ∃ k, kGet (.inl x) kvs = some (.ref k) ∧ μ[k]? = some (.lst (s.map D.int))
    | none => kGet (.inl x) kvs = none
  | _, _, .nil => rfl
  | _, _, .cons (t := t) (k := k) (s := s) (T := T) e tt => by
    rw [List.lookup_cons]
    unfold kGet
    by_cases h : x = t
    · subst h
      simp only [beq_self_eq_true, if_true]
      exact ⟨k, rfl, e⟩
    · have h1 : (x == t) = false := by simpa using h
      have h2 : ¬ ((Sum.inl t : Key) = Sum.inl x) := fun q => h (Sum.inl.inj q).symm
      rw [h1, if_neg h2]
      exact TabR.get tt
/-- a wait -/
abbrev Wt := Int × Rs
def Wt.d (w : Wt) : D := .tup [.int w.1, w.2.d]
def tabOf (ws : List Wt) : List (Int × List Int) := ws.map fun w => (w.1, w.2.succ)
theorem lookup_none : ∀ {T : List (Int × List Int)} {x : Int}, x ∉ T.map (·.1) → T.lookup x = none
  | [], _, _ => rfl
  | (t, s) :: T, x, h => by
    simp only [List.map_cons, List.mem_cons, not_or] at h
    rw [List.lookup_cons]
    have : (x == t) = false := by simpa using h.1
    rw [this]
    exact lookup_none h.2
theorem tab_loop {C : Ctx} {f : String} (hf : ∀ (r : Rs) μ, C.call f [r.d] μ = .ok (.ref μ.length) (μ ++ [.lst (r.succ.map D.int)])) {kt : Nat} {w0 : Option D} {rest : Env} {keep : Mem → Bool} {μ0 : Mem}(hk : ∀ μ, KeepX (· = kt) μ0 μ → keep μ = true) {ws : List Wt} (hnd : (ws.map (·.1)).Nodup) (hl : ws.length < 1000)
    (h0 : μ0[kt]? = some (.dict [])) {K : Ks} {a2 a3 : Option D}
    (q : ∀ a2 a3 kvs μ, KeepX (· = kt) μ0 μ → KeepL μ0 μ → μ[kt]? = some (.dict kvs) → TabR μ kvs (tabOf ws) → K.nx (w0 :: some (.ref kt) :: a2 :: a3 :: rest) μ) :
    (forL keep (stepF C (.tup (.cons (.name 2) (.cons (.name 3) .nil))) (.cons (.asg (.sub (.var 1) (.var 2)) (.call f (.cons (.var 3) .nil))) .nil)) (ws.map Wt.d) (w0 :: some (.ref kt) :: a2 :: a3 :: rest) μ0).wp K := by
  refine wp_forL (fun ds ρ μ => ∃ (dn rm : List Wt) (a2 a3 : Option D) (kvs : List (Key × D)), ws = dn ++ rm ∧ ds = rm.map Wt.d ∧ ρ = w0 :: some (.ref kt) :: a2 :: a3 :: rest ∧ KeepX (· = kt) μ0 μ ∧ KeepL μ0 μ ∧ μ[kt]? = some (.dict kvs) ∧ TabR μ kvs (tabOf dn))
    (fun ds ρ μ ⟨dn, rm, a2, a3, kvs, e1, e2, e3, e4, _⟩ => hk μ e4) (fun d ds ρ μ ⟨dn, rm, a2, a3, kvs, e1, e2, e3, e4, e5, e6, e7⟩ => ?_) (fun ρ μ ⟨dn, rm, a2, a3, kvs, e1, e2, e3, e4, e5, e6, e7⟩ => ?_) ⟨[], ws, a2, a3, [], rfl, rfl, rfl, KeepX.refl _ _, fun _ _ h => h, h0, .nil⟩
  · cases rm with
    | nil => cases e2
    | cons w rm =>
      rw [List.map_cons] at e2
      cases e2
      obtain ⟨t, r⟩ := w
      have hlen : kvs.length < line := by
        have := e7.len
        have : kvs.length ≤ ws.length := by rw [this, e1]; simp [tabOf]
        exact Nat.lt_of_le_of_lt this (Nat.lt_trans hl (by decide))
      have hno : (kGet (.inl t) kvs) = none := by
        have := e7.get (x := t)
        rw [lookup_none (x := t)] at this
        · exact this
        · rw [e1, List.map_append, List.nodup_append] at hnd
          intro hm
          simp only [tabOf, List.map_map] at hm
          exact hnd.2.2 t (by simpa using hm) t (by simp) rfl
      have hkt : (μ ++ [Cell.lst (r.succ.map D.int)])[kt]? = some (.dict kvs) := Keep.app μ _ _ _ e6
      have hlt := get_lt hkt
      have hlt0 := get_lt e6
      rw [w_stepF]
      subst e3
      simp [bindT, bindTs, Wt.d, getT]
      rw [ws_cons]
      simp [hf, store, hkt, keyOf, hlen, kPut, hno]
      refine ⟨dn ++ [(t, r)], rm, by simp [e1], rfl, e4.trans (Keep.x (Keep.app μ _) |>.trans (KeepX.set rfl)), fun k s hs => ?_, _, by rw [List.getElem?_set_self hlt], ?_⟩
      · have h1 := Keep.app μ [Cell.lst (r.succ.map D.int)] _ _ (e5 k s hs)
        have hne : kt ≠ k := fun q => by subst q; rw [hkt] at h1; cases h1
        rw [List.getElem?_set_ne hne, h1]
      · have hne : ∀ k s, (μ ++ [Cell.lst (r.succ.map D.int)])[k]? = some (.lst s) → kt ≠ k := fun k s h q => by subst q; rw [hkt] at h; cases h
        have kl : KeepL μ ((μ ++ [Cell.lst (r.succ.map D.int)]).set kt (.dict (kvs ++ [(.inl t, .ref μ.length)]))) := fun k s hs => by
          have h1 := Keep.app μ [Cell.lst (r.succ.map D.int)] _ _ hs
          rw [List.getElem?_set_ne (hne _ _ h1), h1]
        have := TabR.snoc (t := t) (k := μ.length) (s := r.succ) (by
          have h1 := get_new μ (Cell.lst (r.succ.map D.int))
          rw [List.getElem?_set_ne (hne _ _ h1), h1]) (e7.mono kl)
        simpa [tabOf] using this
  · cases rm with
    | cons w rm => cases e2
    | nil =>
      rw [List.append_nil] at e1
      subst e1 e3
      exact q a2 a3 kvs μ e4 e5 e6 e7
end Pl
set_option Elab.async false
set_option linter.all false
set_option maxRecDepth 100000
set_option maxHeartbeats 1000000
namespace Pl
open G C65
abbrev Cf (n : Nat) : Ctx := ⟨run P n, 100000, false, fun _ _ => false⟩
def sget : Ss → Nat → S
  | .cons s _, 0 => s
  | .cons _ r, n + 1 => sget r n
  | .nil, _ => .pass
def sfor : S → Ss
  | .for _ _ b => b
  | .whil _ b => b
  | _ => .nil
abbrev wB : Ss := sfor (sget f_circle_from.body 2)
abbrev oB : Ss := sfor (sget wB 1)
abbrev iB : Ss := sfor (sget oB 0)
inductive RowsR (F : Nat → Prop) (μ : Mem) : List D → List (List Int) → Prop
  | nil : RowsR F μ [] []
  | cons {k : Nat} {p : List Int} {ds : List D} {ps : List (List Int)} : μ[k]? = some (.lst (p.map D.int)) → ¬ F k → RowsR F μ ds ps → RowsR F μ (.ref k :: ds) (p :: ps)
theorem RowsR.imp {F G : Nat → Prop} {μ μ' : Mem} (h : ∀ k c, ¬ F k → μ[k]? = some c → μ'[k]? = some c ∧ ¬ G k) : ∀ {ds ps}, RowsR F μ ds ps → RowsR G μ' ds ps
  | _, _, .nil => .nil
  | _, _, .cons e n t => .cons (h _ _ n e).1 (h _ _ n e).2 (RowsR.imp h t)
theorem RowsR.mono {F G : Nat → Prop} {μ μ' : Mem} (h : KeepX F μ μ') (i : ∀ k, F k → G k) {ds ps} (r : RowsR G μ ds ps) : RowsR G μ' ds ps := r.imp fun k c n e => ⟨h.at_ k c (fun q => n (i k q)) e, n⟩
theorem RowsR.mem {F : Nat → Prop} {μ : Mem} {k : Nat} : ∀ {ds ps}, RowsR F μ ds ps → D.ref k ∈ ds → ¬ F k
  | _, _, .nil, h => by simp at h
  | _, _, .cons (k := j) e n t, h => by
    rcases List.mem_cons.mp h with h | h
    · cases h; exact n
    · exact RowsR.mem t h
theorem RowsR.snoc {F : Nat → Prop} {μ : Mem} {k : Nat} {p : List Int} (e : μ[k]? = some (.lst (p.map D.int))) (n : ¬ F k) : ∀ {ds ps}, RowsR F μ ds ps → RowsR F μ (ds ++ [.ref k]) (ps ++ [p])
  | _, _, .nil => .cons e n .nil
  | _, _, .cons e' n' t => .cons e' n' (RowsR.snoc e n t)
theorem RowsR.len {F : Nat → Prop} {μ : Mem} : ∀ {ds ps}, RowsR F μ ds ps → ds.length = ps.length
  | _, _, .nil => rfl
  | _, _, .cons _ _ t => congrArg Nat.succ (RowsR.len t)
abbrev FF (ks kl : Nat) : Nat → Prop := fun k => k = ks ∨ k = kl
abbrev FG (N ks kl : Nat) : Nat → Prop := fun k => (k = ks ∨ k = kl) ∨ k < N
structure LM (N : Nat) (μ1 : Mem) (ks kl : Nat) (S : List Int) (L : List (List Int)) (μ : Mem) : Prop where
  seen : μ[ks]? = some (.lst (S.map D.int))
  long : ∃ dl, μ[kl]? = some (.lst dl) ∧ RowsR (FG N ks kl) μ dl L
  keep : KeepX (FF ks kl) μ1 μ
  nd : S.Nodup
  bd : ∀ x ∈ S, 0 ≤ x ∧ x < 10
  ll : L.length ≤ S.length
theorem cf_inner {N n : Nat} {kt kp ks kl k : Nat} {first : Int} {p : List Int} {keep : Mem → Bool} {μ1 : Mem} (hN : N ≤ μ1.length) (hne : ks ≠ kl) (hk : ∀ μ, KeepX (FF ks kl) μ1 μ → keep μ = true) (hp : μ1[k]? = some (.lst (p.map D.int))) (hpl : p.length ≤ 1000) (hF : ¬ FF ks kl k) {K : Ks} :
    ∀ (fs : List Int), (∀ f ∈ fs, 0 ≤ f ∧ f < 10) → ∀ (S : List Int) (L : List (List Int)) (μ : Mem) (a6 : Option D), LM N μ1 ks kl S L μ →
    (∀ a6 μ' S' L', scanF first p fs S L = .inr (S', L') → LM N μ1 ks kl S' L' μ' → K.nx [some (.ref kt), some (.int first), some (.ref kp), some (.ref ks), some (.ref kl), some (.ref k), a6] μ') →
    (∀ μ', scanF first p fs S L = .inl p → KeepX (FF ks kl) μ1 μ' → K.rt (.ref k) μ') →
    (forL keep (stepF (Cf n) (.name 6) iB) (fs.map D.int) [some (.ref kt), some (.int first), some (.ref kp), some (.ref ks), some (.ref kl), some (.ref k), a6] μ).wp K
  | [], hb, S, L, μ, a6, I, q1, q2 => by
    rw [List.map_nil, wf_nil (hk μ I.keep)]
    exact q1 a6 μ S L rfl I
  | f :: fs, hb, S, L, μ, a6, I, q1, q2 => by
    rw [List.map_cons, wf_cons (hk μ I.keep), w_stepF]
    have hkl := I.seen
    have hpk := I.keep.at_ _ _ hF hp
    obtain ⟨dl, hdl, rows⟩ := I.long
    by_cases h1 : f = first
    · subst h1
      simp [bindT, iB, oB, wB, f_circle_from, sget, sfor]
      rw [ws_cons]
      simp
      rw [ws_cons]
      simp
      exact q2 μ (by unfold scanF; rw [if_pos rfl]) I.keep
    · have hnil : ∀ {S L}, scanF first p (f :: fs) S L = if f > first ∧ f ∉ S then scanF first p fs (S ++ [f]) (L ++ [p ++ [f]]) else scanF first p fs S L := fun {S L} => by
        rw [scanF, if_neg h1]
      rw [hnil] at q1 q2
      by_cases h2 : f > first ∧ f ∉ S
      · rw [if_pos h2] at q1 q2
        have hS : S.length ≤ 10 := len10 I.nd I.bd
        have hL : L.length ≤ 10 := Nat.le_trans I.ll hS
        have hSl : S.length < line := Nat.lt_of_le_of_lt hS (by decide)
        have hLl : dl.length < line := by rw [rows.len]; exact Nat.lt_of_le_of_lt hL (by decide)
        have hpL : p.length + 1 ≤ line := Nat.le_trans (Nat.succ_le_succ hpl) (by decide)
        have hlt := get_lt hkl
        have hltl := get_lt hdl
        have hltk := get_lt hpk
        have e1 : ∀ c, (μ.set ks c)[kl]? = some (.lst dl) := fun c => by rw [List.getElem?_set_ne hne, hdl]
        have e2 : ∀ c, (μ.set ks c)[k]? = some (.lst (p.map D.int)) := fun c => by rw [List.getElem?_set_ne (fun q => hF (.inl q.symm)), hpk]
        have e3 : ∀ c ν, (μ.set ks c ++ ν)[k]? = some (.lst (p.map D.int)) := fun c ν => Keep.app _ ν _ _ (e2 c)
        have e4 : ∀ c ν, (μ.set ks c ++ ν)[kl]? = some (.lst dl) := fun c ν => Keep.app _ ν _ _ (e1 c)
        have hSl' : (S.map D.int).length < line := by rw [List.length_map]; exact hSl
        simp [bindT, iB, oB, wB, f_circle_from, sget, sfor]
        rw [ws_cons]
        simp [h1]
        rw [ws_cons]
        simp [h2, inD_int hkl]
        rw [ws_cons]
        simp [recv_app hkl, bm_app hkl hSl', D.cold]
        rw [ws_cons]
        simp [recv_app (e1 _), frzIf, newL, le_line, G.bin, addD, addL, getL, e3, hpL, bm_app (e4 _ _) hLl]
        refine cf_inner hN hne hk hp hpl hF fs (fun f hf => hb f (List.mem_cons_of_mem _ hf)) (S ++ [f]) (L ++ [p ++ [f]]) _ _ ?_ q1 q2
        have kp1 : KeepX (FF ks kl) μ ((((μ.set ks (Cell.lst (S.map D.int ++ [D.int f]))) ++ [Cell.lst [D.int f], Cell.lst (p.map D.int ++ [D.int f])] : Mem)).set kl (Cell.lst (dl ++ [D.ref (μ.length + 1)]))) := (KeepX.set (.inl rfl)).trans ((Keep.app _ _).x.trans (KeepX.set (.inr rfl)))
        refine ⟨?_, ⟨_, get_set (e4 _ _), RowsR.snoc ?_ ?_ (rows.mono kp1 fun _ => .inl)⟩, I.keep.trans kp1, ?_, ?_, ?_⟩
        · rw [List.getElem?_set_ne (Ne.symm hne), Keep.app _ _ _ _ (get_set hkl)]
          simp
        · rw [List.getElem?_set_ne (by omega), List.getElem?_append_right (by simp)]
          simp
        · have := I.keep.len
          rintro ((q | q) | q) <;> omega
        · rw [List.nodup_append]
          exact ⟨I.nd, by simp, fun x hx y hy e => by simp at hy; subst hy; subst e; exact h2.2 hx⟩
        · intro x hx
          rcases List.mem_append.mp hx with hx | hx
          · exact I.bd x hx
          · simp at hx; subst hx; exact hb _ List.mem_cons_self
        · have := I.ll
          simp; omega
      · rw [if_neg h2] at q1 q2
        simp [bindT, iB, oB, wB, f_circle_from, sget, sfor]
        rw [ws_cons]
        simp [h1]
        rw [ws_cons]
        by_cases h3 : first < f
        · have h4 : f ∈ S := Classical.byContradiction fun q => h2 ⟨h3, q⟩
          simp [h3, h4, inD_int hkl]
          exact cf_inner hN hne hk hp hpl hF fs (fun f hf => hb f (List.mem_cons_of_mem _ hf)) S L _ _ I q1 q2
        · simp [h3]
          exact cf_inner hN hne hk hp hpl hF fs (fun f hf => hb f (List.mem_cons_of_mem _ hf)) S L _ _ I q1 q2
/-! ### a level -/
def succT (T : List (Int × List Int)) (x : Int) : List Int := (T.lookup x).getD []
def keyT (T : List (Int × List Int)) (x : Int) : Bool := (T.lookup x).isSome
theorem at_last {p : List Int} (h : p ≠ []) : at_ (p.map D.int) (-1) = some (.int (last p)) := by
  have hl : 0 < p.length := List.length_pos_iff.mpr h
  unfold at_ place
  rw [if_neg (by decide), if_pos (by simp; omega), Option.bind_some]
  simp only [List.length_map]
  have : (-1 + (p.length : Int)).toNat = p.length - 1 := by omega
  rw [this, List.getElem?_map]
  unfold last
  rw [List.getLastD_eq_getLast?, List.getLast?_eq_getElem?]
  rw [List.getElem?_eq_getElem (by omega)]
  rfl
theorem kGet_mem {k : Key} {d : D} : ∀ {l : List (Key × D)}, kGet k l = some d → ∃ q, (q, d) ∈ l
  | [], h => by cases h
  | (j, e) :: l, h => by
    unfold kGet at h
    split at h
    · cases h; exact ⟨_, List.mem_cons_self⟩
    · obtain ⟨q, hq⟩ := kGet_mem h
      exact ⟨q, List.mem_cons_of_mem _ hq⟩
theorem cf_level {N n : Nat} {kt kp ks kl : Nat} {first : Int} {keep : Mem → Bool} {μ1 : Mem} {kvs : List (Key × D)} {T : List (Int × List Int)} (hN : N ≤ μ1.length) (hne : ks ≠ kl) (hk : ∀ μ, KeepX (FF ks kl) μ1 μ → keep μ = true)
    (ht : μ1[kt]? = some (.dict kvs)) (hT : TabR μ1 kvs T) (hTl : ∀ k, FF ks kl k → ∀ q, (q, D.ref k) ∈ kvs → False) (hkt : ¬ FF ks kl kt) (hTb : ∀ x, ∀ y ∈ succT T x, 0 ≤ y ∧ y < 10) (hlt : ks < μ1.length ∧ kl < μ1.length) {K : Ks} :
    ∀ (ds : List D) (B : List (List Int)), (∀ p ∈ B, p ≠ [] ∧ p.length ≤ 1000) → ∀ (S : List Int) (L : List (List Int)) (μ : Mem) (a5 a6 : Option D), RowsR (FG N ks kl) μ ds B → LM N μ1 ks kl S L μ →
    (∀ a5 a6 μ' S' L', scan (succT T) first B S L = .inr (S', L') → LM N μ1 ks kl S' L' μ' → K.nx [some (.ref kt), some (.int first), some (.ref kp), some (.ref ks), some (.ref kl), a5, a6] μ') →
    (∀ k p μ', scan (succT T) first B S L = .inl p → KeepX (FF ks kl) μ1 μ' → ¬ FF ks kl k → μ'[k]? = some (.lst (p.map D.int)) → (D.ref k) ∈ ds → K.rt (.ref k) μ') →
    (forL keep (stepF (Cf n) (.name 5) oB) ds [some (.ref kt), some (.int first), some (.ref kp), some (.ref ks), some (.ref kl), a5, a6] μ).wp K
  | _, [], hB, S, L, μ, a5, a6, .nil, I, q1, q2 => by
    rw [wf_nil (hk μ I.keep)]
    exact q1 a5 a6 μ S L rfl I
  | _, p :: B, hB, S, L, μ, a5, a6, .cons (k := k) (ds := ds) hp hF rows, I, q1, q2 => by
    rw [wf_cons (hk μ I.keep), w_stepF]
    have htμ := I.keep.at_ _ _ hkt ht
    obtain ⟨hp0, hpl⟩ := hB p List.mem_cons_self
    have ha := at_last hp0
    have hpa : ∀ ν, (μ ++ ν)[k]? = some (.lst (p.map D.int)) := fun ν => Keep.app _ ν _ _ hp
    have hta : ∀ ν, (μ ++ ν)[kt]? = some (.dict kvs) := fun ν => Keep.app _ ν _ _ htμ
    simp [bindT, oB, wB, f_circle_from, sget, sfor]
    rw [ws_cons]
    have hw : ∃ keep2, walkSeq (μ ++ [Cell.lst []]) ((kGet (Sum.inl (last p)) kvs).getD (.ref μ.length)) = some ⟨(succT T (last p)).map D.int, keep2⟩ ∧ ∀ μ', KeepX (FF ks kl) (μ ++ [Cell.lst []]) μ' → keep2 μ' = true := by
      have hg := hT.get (x := last p)
      unfold succT
      cases e : T.lookup (last p) with
      | none =>
        rw [e] at hg
        have hg : kGet (Sum.inl (last p)) kvs = none := hg
        rw [hg]
        refine ⟨_, by simp only [Option.getD_none, walkSeq, get_new]; rfl, fun μ' h' => ?_⟩
        have := h'.at_ _ _ (by have := I.keep.len; rintro (q | q) <;> omega) (get_new μ (Cell.lst []))
        simp [getL_ref this]
      | some s =>
        rw [e] at hg
        obtain ⟨k', h1, h2⟩ := hg
        rw [h1]
        have hk' : ¬ FF ks kl k' := fun q => by
          obtain ⟨q', hq'⟩ := kGet_mem h1
          exact hTl k' q q' hq'
        have h3 := Keep.app μ [Cell.lst []] _ _ (I.keep.at_ _ _ hk' h2)
        refine ⟨_, by simp only [Option.getD_some, walkSeq, h3]; rfl, fun μ' h' => ?_⟩
        simp [getL_ref (h'.at_ _ _ hk' h3)]
    obtain ⟨keep2, hw1, hw2⟩ := hw
    have hb2 := hTb (last p)
    simp [recv, htμ, item, itemL, hp, G.neg, ha, newL, frzIf, bmeth, mGet, hta, keyOf, hw1]
    have I2 : LM N (μ ++ [Cell.lst []]) ks kl S L (μ ++ [Cell.lst []]) := by
      obtain ⟨dl, h1, h2⟩ := I.long
      exact ⟨Keep.app _ _ _ _ I.seen, ⟨dl, Keep.app _ _ _ _ h1, h2.mono (F := FF ks kl) (Keep.app _ _).x fun _ => .inl⟩, KeepX.refl _ _, I.nd, I.bd, I.ll⟩
    have kpa : KeepX (FF ks kl) μ1 (μ ++ [Cell.lst []]) := I.keep.trans (Keep.app _ _).x
    refine cf_inner (p := p) (N := N) (by have := I.keep.len; simp; omega) hne hw2 (hpa _) hpl (fun q => hF (.inl q)) (succT T (last p)) hb2 S L _ a6 I2 (fun a6 μ' S' L' hs I' => ?_) (fun μ' hs hk' => ?_)
    · simp only [ws_nil]
      have e : scan (succT T) first (p :: B) S L = scan (succT T) first B S' L' := by
        rw [scan, hs]
      rw [e] at q1 q2
      have I3 : LM N μ1 ks kl S' L' μ' := ⟨I'.seen, I'.long, kpa.trans I'.keep, I'.nd, I'.bd, I'.ll⟩
      exact cf_level hN hne hk ht hT hTl hkt hTb hlt ds B (fun p hp => hB p (List.mem_cons_of_mem _ hp)) S' L' μ' _ _ ((rows.mono (F := FF ks kl) (Keep.app _ _).x fun _ => .inl).mono I'.keep fun _ => .inl) I3 q1 fun k p μ' a b c d e => q2 k p μ' a b c d (List.mem_cons_of_mem _ e)
    · have e : scan (succT T) first (p :: B) S L = .inl p := by
        rw [scan, hs]
      exact q2 k p μ' e (kpa.trans hk') (fun q => hF (.inl q)) (hk'.at_ _ _ (fun q => hF (.inl q)) (hpa _)) List.mem_cons_self
/-! ### circle_from -/
theorem TabR.old {μ : Mem} {q : Key} {k : Nat} : ∀ {kvs T}, TabR μ kvs T → (q, D.ref k) ∈ kvs → k < μ.length
  | _, _, .nil, h => by simp at h
  | _, _, .cons e t, h => by
    rcases List.mem_cons.mp h with h | h
    · cases h; exact get_lt e
    · exact TabR.old t h
def WInv (kt : Nat) (first : Int) (μ0 : Mem) (T : List (Int × List Int)) (r : Option (List Int)) (m : Nat) (ρ : Env) (μ : Mem) : Prop :=
  ∃ B S ds kp ks a4 a5 a6, ρ = [some (.ref kt), some (.int first), some (.ref kp), some (.ref ks), a4, a5, a6] ∧ μ[kp]? = some (.lst ds) ∧ RowsR (fun k => k = ks ∨ k < μ0.length) μ ds B ∧ μ[ks]? = some (.lst (S.map D.int)) ∧ Keep μ0 μ ∧ μ0.length ≤ kp ∧ μ0.length ≤ ks ∧ kp ≠ ks ∧
    S.Nodup ∧ (∀ x ∈ S, 0 ≤ x ∧ x < 10) ∧ (∀ p ∈ B, p ≠ [] ∧ p.length + m ≤ 21) ∧ bfs (succT T) first m B S = r ∧ meas B S ≤ m
theorem run_circle (n : Nat) {kt : Nat} {first : Int} {μ0 : Mem} {kvs : List (Key × D)} {T : List (Int × List Int)} (ht : μ0[kt]? = some (.dict kvs)) (hT : TabR μ0 kvs T) (asc : ∀ x, (succT T x).Pairwise (· < ·)) (hTb : ∀ x, ∀ y ∈ succT T x, 0 ≤ y ∧ y < 10) (hf : 0 ≤ first ∧ first < 10) :
    (run P (n + 1) "circle_from" [.ref kt, .int first] μ0).wp (fun d μ' => Keep μ0 μ' ∧ match bfs (succT T) first 20 [[first]] [first] with
      | none => d = .non
      | some p => ∃ k, d = .ref k ∧ μ0.length ≤ k ∧ μ'[k]? = some (.lst (p.map D.int))) fun _ _ => False := by
  refine wp_run (F := f_circle_from) rfl rfl ?_
  show (execs (Cf n) f_circle_from.body [some (.ref kt), some (.int first), none, none, none, none, none] μ0).wp _
  generalize hr : bfs (succT T) first 20 [[first]] [first] = r
  unfold f_circle_from
  rw [ws_cons]
  simp [frzIf, newL, le_line]
  rw [ws_cons]
  simp [frzIf, newL, le_line]
  rw [ws_cons, w_whil]
  refine wp_whileL (WInv kt first μ0 T r) (fun m ρ μ I => ?_) ⟨20, (by show 20 < 100000; decide), ?_⟩
  · obtain ⟨B, S, ds, kp, ks, a4, a5, a6, rfl, h1, rows, h2, kp0, hkp, hks, hne, nd, bd, hB, hbf, hm⟩ := I
    simp [truth_ref h1]
    by_cases hB0 : B = []
    · subst hB0
      cases rows
      simp
      rw [ws_cons]
      simp
      refine ⟨kp0, ?_⟩
      cases m with
      | zero => rw [← hbf]; simp [bfs]
      | succ m => rw [← hbf]; simp [bfs]
    · have hds : ds ≠ [] := fun e => by
        have := rows.len
        rw [e] at this
        exact hB0 (List.eq_nil_of_length_eq_zero this.symm)
      have hemp : ds.isEmpty = false := by simpa using hds
      simp [hemp]
      obtain ⟨m, rfl⟩ : ∃ j, m = j + 1 := ⟨m - 1, by unfold meas at hm; rw [if_neg hB0] at hm; omega⟩
      rw [ws_cons]
      simp [frzIf, newL, le_line]
      rw [ws_cons]
      have hkpμ : (μ ++ [Cell.lst []])[kp]? = some (.lst ds) := Keep.app _ _ _ _ h1
      have hklt := get_lt h2
      have hkplt := get_lt h1
      simp [walkSeq, hkpμ]
      have hbf' : bfs (succT T) first (m + 1) B S = match scan (succT T) first B S [] with
        | .inl p => some p
        | .inr (S', L) => bfs (succT T) first m L S' := by
        rw [bfs, if_neg hB0]
        try (cases scan (succT T) first B S [] <;> rfl)
      have hk0 : Keep μ0 (μ ++ [Cell.lst []]) := kp0.trans (Keep.app _ _)
      have tk := hT.mono (Keep.l hk0)
      have up : ∀ {μ' : Mem}, KeepX (FF ks μ.length) (μ ++ [Cell.lst []]) μ' → Keep μ0 μ' := fun {μ'} h => KeepX.keep hk0 (h.mono fun k q => by have := kp0.len; rcases q with rfl | rfl <;> omega)
      refine cf_level (N := μ0.length) (T := T) (kvs := kvs) (by have := kp0.len; simp; omega) (by omega) (fun μ' hk => ?_) (hk0 _ _ ht) tk (fun k hk q hq => ?_) (fun q => ?_) hTb (by simp; omega) ds B (fun p hp => ⟨(hB p hp).1, by have := (hB p hp).2; omega⟩) S [] _ _ _ (rows.imp fun k c n e => ⟨Keep.app _ _ _ _ e, ?_⟩) ⟨Keep.app _ _ _ _ h2, ⟨[], get_new _ _, .nil⟩, KeepX.refl _ _, nd, bd, Nat.zero_le _⟩ (fun a5 a6 μ' S' L' hs I' => ?_) fun k p μ' hs hk hF hp hmem => ?_
      · have : μ'[kp]? = some (.lst ds) := hk.at_ _ _ (by rintro (q | q) <;> omega) hkpμ
        exact decide_eq_true (getL_ref this)
      · have h3 := hT.old hq
        have := kp0.len
        rcases hk with rfl | rfl <;> omega
      · have := get_lt ht
        have := kp0.len
        rcases q with rfl | rfl <;> omega
      · have := get_lt e
        rintro ((q | q) | q)
        · exact n (.inl q)
        · omega
        · exact n (.inr q)
      · rw [hbf', hs] at hbf
        cases hfc : B.find? (close (succT T) first) with
        | some p => rw [scan_in B S [] p asc hfc] at hs; cases hs
        | none =>
          obtain ⟨S2, L2, e, sc⟩ := scan_ok (succ := succT T) (first := first) B S [] asc hfc
          rw [e] at hs
          cases hs
          obtain ⟨dl, hdl, rl⟩ := I'.long
          dsimp only
          rw [ws_cons]
          simp
          refine ⟨m, Nat.lt_succ_self m, L2, S', dl, μ.length, ks, _, _, _, rfl, hdl, rl.imp fun k c n e => ⟨e, fun q => ?_⟩, I'.seen, up I'.keep, by have := kp0.len; omega, hks, by omega, I'.nd, I'.bd, fun w hw => ?_, hbf, ?_⟩
          · rcases q with q | q
            · exact n (.inl (.inl q))
            · exact n (.inr q)
          · obtain ⟨p, hp, f, _, rfl, _⟩ := sc.of w hw
            have := (hB p hp).2
            exact ⟨by simp, by simp; omega⟩
          · have := meas_less sc hB0 (len10 I'.nd I'.bd)
            omega
      · rw [hbf', hs] at hbf
        refine ⟨up hk, ?_⟩
        rw [← hbf]
        exact ⟨k, rfl, by have := rows.mem hmem; omega, hp⟩
  · refine ⟨[[first]], [first], [.ref μ0.length], μ0.length + 1, μ0.length + 2, none, none, none, rfl, by simp, .cons (by simp) (by omega) .nil, by simp, fun k c e => Keep.app μ0 _ k c e, by omega, by omega, by omega, by simp, by simpa using hf, by simp, hr, by simp [meas]⟩
end Pl
set_option Elab.async false
set_option linter.all false
set_option maxRecDepth 100000
set_option maxHeartbeats 1000000
namespace Pl
open G C65
structure WsOk (ws : List Wt) : Prop where
  nd : (ws.map (·.1)).Nodup
  tb : ∀ w ∈ ws, 0 ≤ w.1 ∧ w.1 < 10
  len : ws.length ≤ 8
  asc : ∀ w ∈ ws, w.2.succ.Pairwise (· < ·)
  sb : ∀ w ∈ ws, ∀ y ∈ w.2.succ, 0 ≤ y ∧ y < 10
theorem lookup_mem : ∀ {T : List (Int × List Int)} {x : Int} {s : List Int}, T.lookup x = some s → (x, s) ∈ T
  | [], _, _, h => by simp at h
  | (t, u) :: T, x, s, h => by
    rw [List.lookup_cons] at h
    split at h
    · next e => cases h; rw [eq_of_beq e]; exact List.mem_cons_self
    · exact List.mem_cons_of_mem _ (lookup_mem h)
theorem WsOk.succ {ws : List Wt} (h : WsOk ws) (x : Int) : (succT (tabOf ws) x).Pairwise (· < ·) ∧ ∀ y ∈ succT (tabOf ws) x, 0 ≤ y ∧ y < 10 := by
  unfold succT
  cases e : (tabOf ws).lookup x with
  | none => simp
  | some s =>
    obtain ⟨w, hw, e2⟩ := List.mem_map.mp (lookup_mem e)
    cases e2
    exact ⟨h.asc w hw, h.sb w hw⟩
theorem WsOk.ok {ws : List Wt} (h : WsOk ws) {x : Int} (hx : keyT (tabOf ws) x = true) : Ok (succT (tabOf ws)) (keyT (tabOf ws)) x := ⟨fun x => (h.succ x).1, fun x hx => (by
  unfold keyT at hx
  unfold succT
  cases e : (tabOf ws).lookup x with
  | none => rfl
  | some s => (rw [e] at hx; cases hx)), hx⟩
def keys (ws : List Wt) : List Int := (ws.map (·.1)).mergeSort fun a b => decide (a ≤ b)
theorem keys_mem {ws : List Wt} {x : Int} (h : x ∈ keys ws) : ∃ w ∈ ws, w.1 = x := by
  have := (List.mergeSort_perm (ws.map (·.1)) fun a b => decide (a ≤ b)).mem_iff.mp h
  exact List.mem_map.mp this
theorem key_of {ws : List Wt} {w : Wt} (h : w ∈ ws) : keyT (tabOf ws) w.1 = true := by
  unfold keyT tabOf
  induction ws with
  | nil => simp at h
  | cons a ws ih =>
    rw [List.map_cons, List.lookup_cons]
    by_cases e : w.1 = a.1
    · rw [e, beq_self_eq_true]; rfl
    · have : (w.1 == a.1) = false := by simpa using e
      rw [this]
      rcases List.mem_cons.mp h with rfl | h
      · exact absurd rfl e
      · exact ih h
theorem sortD_ints (ns : List Int) : sortD (ns.map D.int) = some ((ns.mergeSort fun a b => decide (a ≤ b)).map D.int) := by
  have h1 : (ns.map D.int).all (fun a => (ns.map D.int).all fun b => a.alike b) = true := by simp [D.alike]
  have h2 : sortable (ns.map D.int) = true := by
    unfold sortable
    rw [Bool.or_eq_true]
    right
    simp
  have h3 : (ns.map D.int).all (fun d => d.noref && decide (d.depth ≤ 60)) = true := by simp [D.noref, D.depth]
  unfold sortD
  rw [h1, h2, h3]
  simp only [Bool.and_self, if_true]
  rw [List.map_mergeSort (s := leD)]
  intro a _ b _
  simp only [leD, D.lt]
  by_cases h : a ≤ b
  · rw [decide_eq_true h, decide_eq_false (by omega)]; rfl
  · rw [decide_eq_false h, decide_eq_true (by omega)]; rfl
theorem TabR.keysD {μ : Mem} : ∀ {kvs T}, TabR μ kvs T → kvs.map (fun p => keyD p.1) = (T.map (·.1)).map D.int
  | _, _, .nil => rfl
  | _, _, .cons e t => by rw [List.map_cons, List.map_cons, List.map_cons, TabR.keysD t]; rfl
def firstC (ws : List Wt) : Option (List Int) := (keys ws).findSome? fun t => bfs (succT (tabOf ws)) t 20 [[t]] [t]
abbrev Cc (n : Nat) (f : String) : Ctx := ⟨run P n, 100000, P.fr f, fun _ _ => false⟩
abbrev fB : Ss := sfor (sget f_first_circle.body 2)
def PathD (μ0 μ : Mem) (d : D) (r : Option (List Int)) : Prop := match r with
  | none => d = .non
  | some p => ∃ k, d = .ref k ∧ μ0.length ≤ k ∧ μ[k]? = some (.lst (p.map D.int))
theorem fc_loop {n : Nat} {kt : Nat} {ws : List Wt} (ok : WsOk ws) {μ0 μ1 : Mem} {kvs : List (Key × D)} (hl0 : μ0.length ≤ μ1.length) (ht : μ1[kt]? = some (.dict kvs)) (hT : TabR μ1 kvs (tabOf ws)) {keep : Mem → Bool} (hk : ∀ μ, Keep μ1 μ → keep μ = true) {K : Ks} {w0 a3 : Option D} : ∀ (ts : List Int), (∀ t ∈ ts, 0 ≤ t ∧ t < 10) → ∀ (μ : Mem) (a2 a4 : Option D), Keep μ1 μ →
    (∀ a2 a4 μ', ts.findSome? (fun t => bfs (succT (tabOf ws)) t 20 [[t]] [t]) = none → Keep μ1 μ' → K.nx [w0, some (.ref kt), a2, a3, a4] μ') →
    (∀ p k μ', ts.findSome? (fun t => bfs (succT (tabOf ws)) t 20 [[t]] [t]) = some p → Keep μ1 μ' → μ0.length ≤ k → μ'[k]? = some (.lst (p.map D.int)) → K.rt (.ref k) μ') →
    (forL keep (stepF (Cc (n + 1) "first_circle") (.name 2) fB) (ts.map D.int) [w0, some (.ref kt), a2, a3, a4] μ).wp K
  | [], _, μ, a2, a4, k1, q1, q2 => by
    rw [List.map_nil, wf_nil (hk μ k1)]
    exact q1 a2 a4 μ rfl k1
  | t :: ts, hb, μ, a2, a4, k1, q1, q2 => by
    rw [List.map_cons, wf_cons (hk μ k1), w_stepF]
    simp [bindT, fB, f_first_circle, sget, sfor]
    rw [ws_cons]
    simp
    refine wp_mono (run_circle n (kt := kt) (first := t) (μ0 := μ) (k1 _ _ ht) (hT.mono (Keep.l k1)) (fun x => (ok.succ x).1) (fun x => (ok.succ x).2) (hb t List.mem_cons_self)) (fun d μ' ⟨k2, hd⟩ => ?_) fun c μ' h => h.elim
    rw [List.findSome?_cons] at q1 q2
    cases hbf : bfs (succT (tabOf ws)) t 20 [[t]] [t] with
    | none =>
      rw [hbf] at hd q1 q2
      simp only at hd
      subst hd
      rw [ws_cons]
      simp
      exact fc_loop ok hl0 ht hT hk ts (fun t h => hb t (List.mem_cons_of_mem _ h)) μ' _ _ (k1.trans k2) q1 q2
    | some p =>
      rw [hbf] at hd q1 q2
      obtain ⟨k, rfl, hk0, hp⟩ := hd
      rw [ws_cons]
      simp
      rw [ws_cons]
      simp
      exact q2 p k μ' rfl (k1.trans k2) (by have := k1.len; omega) hp
theorem run_first (n : Nat) {kw : Nat} {ws : List Wt} (ok : WsOk ws) {μ0 : Mem} (hw : μ0[kw]? = some (.lst (ws.map Wt.d))) :
    (run P (n + 2) "first_circle" [.ref kw] μ0).wp (fun d μ' => Keep μ0 μ' ∧ PathD μ0 μ' d (firstC ws)) fun _ _ => False := by
  refine wp_run (F := f_first_circle) rfl rfl ?_
  show (execs (Cc (n + 1) "first_circle") f_first_circle.body [some (.ref kw), none, none, none, none] μ0).wp _
  unfold f_first_circle
  rw [ws_cons]
  simp
  rw [ws_cons]
  have hw1 := Keep.app μ0 [Cell.dict []] _ _ hw
  have hlw := get_lt hw
  simp [walkSeq, hw1]
  refine tab_loop (C := Cc (n + 1) "first_circle") (f := "followers") (fun r μ => run_followers n r μ) (kt := μ0.length) (fun μ hk => ?_) (ws := ws) ok.nd (by have := ok.len; omega) (get_new _ _) fun a2 a3 kvs μ kx kl ht hT => ?_
  · have := hk.at_ _ _ (by omega) hw1
    exact decide_eq_true (getL_ref this)
  · dsimp only
    rw [ws_cons]
    have hk0 : Keep μ0 μ := fun k c e => kx.at_ _ _ (by have := get_lt e; omega) (Keep.app _ _ _ _ e)
    have hsd := sortD_ints (ws.map (·.1))
    have hkd : kvs.map (fun p => keyD p.1) = (ws.map (·.1)).map D.int := by rw [hT.keysD]; simp [tabOf]
    simp [blt, bList, getS, getL, ht, hkd, newL, bSorted]
    rw [List.map_map] at hsd
    simp only [Function.comp_def] at hsd ⊢
    have hsd' : sortD (ws.map fun x => D.int x.fst) = some ((keys ws).map D.int) := hsd
    simp [hsd', newL, walkSeq]
    let μ1 : Mem := μ ++ [Cell.lst (ws.map fun x => D.int x.1), Cell.lst ((keys ws).map D.int)]
    have hks : μ1[μ.length + 1]? = some (.lst ((keys ws).map D.int)) := by simp [μ1]
    refine fc_loop (n := n) (ws := ws) (μ0 := μ0) (μ1 := μ1) (kvs := kvs) (kt := μ0.length) ok (by have := hk0.len; simp [μ1]; omega) (Keep.app _ _ _ _ ht) (hT.mono (Keep.l (Keep.app _ _))) (fun μ' hk => ?_) (keys ws) (fun t h => ?_) μ1 a2 none (Keep.refl _) (fun a2 a4 μ' hf hk => ?_) (fun p k μ' hf hk hk0' hp => ?_)
    · exact decide_eq_true (getL_ref (hk _ _ hks))
    · obtain ⟨w, hw, rfl⟩ := keys_mem h
      exact ok.tb w hw
    · dsimp only
      rw [ws_cons]
      simp
      refine ⟨(hk0.trans (Keep.app _ _)).trans hk, ?_⟩
      unfold firstC
      rw [hf]
      rfl
    · refine ⟨(hk0.trans (Keep.app _ _)).trans hk, ?_⟩
      unfold firstC
      rw [hf]
      exact ⟨k, rfl, hk0', hp⟩
end Pl
set_option Elab.async false
set_option linter.all false
set_option maxRecDepth 100000
set_option maxHeartbeats 1000000
namespace Pl
open G C65
def rowD (p : List Int) : D := .lst (p.map D.int)
theorem range_len (n : Nat) : rangeL 0 (n : Int) = (List.range n).map fun (i : Nat) => D.int (i : Int) := by
  unfold rangeL
  simp
section
variable {ws : List Wt} {first : Int}
theorem ext_le (ok : WsOk ws) (w : List Int) : (ext1 (succT (tabOf ws)) (keyT (tabOf ws)) first w).length ≤ 10 := by
  unfold ext1
  rw [List.length_map]
  have h := ok.succ (last w)
  exact Nat.le_trans (List.length_filter_le _ _) (len10 (h.1.imp fun h => by omega) h.2)
theorem W_le (ok : WsOk ws) : ∀ n : Nat, (W (succT (tabOf ws)) (keyT (tabOf ws)) first n).length ≤ 10 ^ n
  | 0 => by simp [W]
  | n + 1 => by
    have ih := W_le ok n
    show ((W _ _ first n).flatMap _).length ≤ _
    rw [List.length_flatMap]
    have : ∀ l : List (List Int), (l.map fun w => (ext1 (succT (tabOf ws)) (keyT (tabOf ws)) first w).length).sum ≤ 10 * l.length := fun l => by
      induction l with
      | nil => simp
      | cons a l ih => have := ext_le (first := first) ok a; simp only [List.map_cons, List.sum_cons, List.length_cons]; omega
    have := this (W (succT (tabOf ws)) (keyT (tabOf ws)) first n)
    rw [Nat.pow_succ]
    omega
abbrev lB : Ss := sfor (sget f__law_ways.body 1)
abbrev l2B : Ss := sfor (sget lB 1)
abbrev l3B : Ss := sfor (sget l2B 0)
theorem at_lastN {p : List Int} (h : p ≠ []) : at_ (p.map D.int) ((p.length : Int) - 1) = some (.int (last p)) := by
  have hl : 0 < p.length := List.length_pos_iff.mpr h
  unfold at_ place
  rw [if_pos (by omega), if_pos (by simp; omega), Option.bind_some]
  have : ((p.length : Int) - 1).toNat = p.length - 1 := by omega
  rw [this, List.getElem?_map]
  unfold last
  rw [List.getLastD_eq_getLast?, List.getLast?_eq_getElem?]
  rw [List.getElem?_eq_getElem (by omega)]
  rfl
def LwE (kt : Nat) (first L : Int) (kh : Nat) (a4 : Option D) (kl : Nat) (a6 a7 : Option D) : Env := [some (.ref kt), some (.int first), some (.int L), some (.ref kh), a4, some (.ref kl), a6, a7]
theorem inD_tab {μ : Mem} {kt : Nat} {kvs : List (Key × D)} {T : List (Int × List Int)} (ht : μ[kt]? = some (.dict kvs)) (hT : TabR μ kvs T) (x : Int) : inD μ (.int x) (.ref kt) = some (keyT T x) := by
  simp only [inD, ht, keyOf]
  have := hT.get (x := x)
  unfold keyT
  cases e : T.lookup x with
  | none => rw [e] at this; have this : kGet (Sum.inl x) kvs = none := this; rw [this]; rfl
  | some s => rw [e] at this; obtain ⟨k, h1, _⟩ := this; rw [h1]; rfl
theorem lw_inner {n : Nat} {kt kh kl : Nat} {L : Int} {w : List Int} {keep : Mem → Bool} {μ1 : Mem} {kvs : List (Key × D)} (hk : ∀ μ, KeepX (· = kl) μ1 μ → keep μ = true) (ht : μ1[kt]? = some (.dict kvs)) (hT : TabR μ1 kvs (tabOf ws)) (hne : kt ≠ kl) (hold : ∀ q k, (q, D.ref k) ∈ kvs → k ≠ kl) (hwl : w.length ≤ 1000) {K : Ks} {a4 : Option D} :
    ∀ (fs : List Int) (acc : List (List Int)) (μ : Mem) (a7 : Option D), μ[kl]? = some (.lst (acc.map rowD)) → KeepX (· = kl) μ1 μ → acc.length + fs.length < line →
    (∀ a7 μ', μ'[kl]? = some (.lst ((acc ++ (fs.filter fun o => decide (o > first) && keyT (tabOf ws) o && !w.contains o).map fun o => w ++ [o]).map rowD)) → KeepX (· = kl) μ1 μ' → K.nx (LwE kt first L kh a4 kl (some (rowD w)) a7) μ') →
    (forL keep (stepF (Cc n "_law_ways") (.name 7) l3B) (fs.map D.int) (LwE kt first L kh a4 kl (some (rowD w)) a7) μ).wp K
  | [], acc, μ, a7, h, hx, hl, q => by
    rw [List.map_nil, wf_nil (hk μ hx)]
    exact q a7 μ (by simpa using h) hx
  | f :: fs, acc, μ, a7, h, hx, hl, q => by
    rw [List.map_cons, wf_cons (hk μ hx), w_stepF]
    simp only [List.length_cons] at hl
    have htμ := hx.at_ _ _ hne ht
    have hTμ : TabR μ kvs (tabOf ws) := by
      have : ∀ {l T}, (∀ q k, (q, D.ref k) ∈ l → k ≠ kl) → TabR μ1 l T → TabR μ l T := fun {l T} ho h => by
        induction h with
        | nil => exact .nil
        | cons e t ih => exact .cons (hx.at_ _ _ (ho _ _ List.mem_cons_self) e) (ih fun q k hm => ho q k (List.mem_cons_of_mem _ hm))
      exact this hold hT
    have hin := inD_tab htμ hTμ f
    have hal : (acc.map rowD).length < line := by rw [List.length_map]; omega
    have hin2 : inD μ (.int f) (rowD w) = some (decide (f ∈ w)) := inD_intL w f
    simp [bindT, l3B, l2B, lB, f__law_ways, sget, sfor, LwE]
    rw [ws_cons]
    by_cases hc : first < f ∧ keyT (tabOf ws) f = true ∧ f ∉ w
    · obtain ⟨h1, h2, h3⟩ := hc
      have hla : ∀ ν, (μ ++ ν)[kl]? = some (.lst (acc.map rowD)) := fun ν => Keep.app _ ν _ _ h
      have hwl' : w.length + 1 ≤ line := le_line (by omega)
      simp [h1, hin, h2, hin2, h3]
      rw [ws_cons]
      simp [recv_app h, frzIf, newL, le_line, G.bin, addD, addL, rowD, getL, hwl', frz, frz1]
      have e : bmeth (P.fr "_law_ways") (.ref kl) .append [.ref (μ.length + 1)] (μ ++ [Cell.lst [.int f], Cell.lst (w.map D.int ++ [.int f])]) = .ok .non ((μ ++ [Cell.lst [.int f], Cell.fz (w.map D.int ++ [.int f])]).set kl (.lst ((acc ++ [w ++ [f]]).map rowD))) := by
        have hfr : P.fr "_law_ways" = true := by decide
        have g1 : (μ ++ [Cell.lst [.int f], Cell.lst (w.map D.int ++ [.int f])])[μ.length + 1]? = some (.lst (w.map D.int ++ [.int f])) := by simp
        have g2 : (μ ++ [Cell.lst [.int f], Cell.lst (w.map D.int ++ [.int f])]).set (μ.length + 1) (.fz (w.map D.int ++ [.int f])) = μ ++ [Cell.lst [.int f], Cell.fz (w.map D.int ++ [.int f])] := by
          rw [List.set_append_right _ _ (by omega)]
          simp
        simp only [bmeth, mAppend, hfr, if_true, frz1, g1, g2, hla, hal]
        simp [rowD]
      rw [e, wp_ok]
      have kx : KeepX (· = kl) μ ((μ ++ [Cell.lst [.int f], Cell.fz (w.map D.int ++ [.int f])] : Mem).set kl (.lst ((acc ++ [w ++ [f]]).map rowD))) := (Keep.app _ _).x.trans (KeepX.set rfl)
      have hcond : (decide (f > first) && keyT (tabOf ws) f && !w.contains f) = true := by simp [h2, h3]; exact h1
      have hg : ((μ ++ [Cell.lst [.int f], Cell.fz (w.map D.int ++ [.int f])] : Mem).set kl (.lst ((acc ++ [w ++ [f]]).map rowD)))[kl]? = some (.lst ((acc ++ [w ++ [f]]).map rowD)) := by
        refine get_set (x := .lst (acc.map rowD)) ?_
        exact hla _
      refine lw_inner hk ht hT hne hold hwl fs (acc ++ [w ++ [f]]) _ _ hg (hx.trans kx) (by simp; omega) fun a7 μ' h' hx' => ?_
      refine q a7 μ' ?_ hx'
      rw [h', List.filter_cons, if_pos hcond]
      simp
    · have hcond : (decide (f > first) && keyT (tabOf ws) f && !w.contains f) = false := by
        cases h1 : (decide (f > first) && keyT (tabOf ws) f && !w.contains f) with
        | false => rfl
        | true => simp at h1; exact absurd ⟨h1.1.1, h1.1.2, h1.2⟩ hc
      have q' : ∀ a7 μ', μ'[kl]? = some (.lst ((acc ++ (fs.filter fun o => decide (o > first) && keyT (tabOf ws) o && !w.contains o).map fun o => w ++ [o]).map rowD)) → KeepX (· = kl) μ1 μ' → K.nx (LwE kt first L kh a4 kl (some (rowD w)) a7) μ' := fun a7 μ' h' hx' => by
        refine q a7 μ' ?_ hx'
        rw [h', List.filter_cons, if_neg (by rw [hcond]; decide)]
      have go := lw_inner (n := n) hk ht hT hne hold hwl fs acc μ (some (.int f)) h hx (by omega) q'
      by_cases h1 : first < f
      · cases h2 : keyT (tabOf ws) f with
        | false =>
          simp [h1, hin, h2]
          exact go
        | true =>
          have h3 : f ∈ w := Classical.byContradiction fun h3 => hc ⟨h1, h2, h3⟩
          simp [h1, hin, h2, hin2, h3]
          exact go
      · simp [h1]
        exact go
theorem TabR.getK {μ : Mem} {kvs : List (Key × D)} {T : List (Int × List Int)} (h : TabR μ kvs T) {x : Int} (hx : keyT T x = true) : ∃ k, kGet (.inl x) kvs = some (.ref k) ∧ μ[k]? = some (.lst ((succT T x).map D.int)) := by
  have := h.get (x := x)
  unfold keyT at hx
  unfold succT
  cases e : T.lookup x with
  | none => rw [e] at hx; cases hx
  | some s => rw [e] at this; exact this
theorem tab_keep {μ μ' : Mem} {F : Nat → Prop} (hx : KeepX F μ μ') : ∀ {kvs : List (Key × D)} {T : List (Int × List Int)}, (∀ q k, (q, D.ref k) ∈ kvs → ¬ F k) → TabR μ kvs T → TabR μ' kvs T
  | _, _, _, .nil => .nil
  | _, _, ho, .cons e t => .cons (hx.at_ _ _ (ho _ _ List.mem_cons_self) e) (tab_keep hx (fun q k hm => ho q k (List.mem_cons_of_mem _ hm)) t)
theorem lw_mid {n : Nat} {kt kh kl : Nat} {L : Int} (ok : WsOk ws) {keep : Mem → Bool} {μ1 : Mem} {kvs : List (Key × D)} (hk : ∀ μ, KeepX (· = kl) μ1 μ → keep μ = true) (ht : μ1[kt]? = some (.dict kvs)) (hT : TabR μ1 kvs (tabOf ws)) (hne : kt ≠ kl) (hold : ∀ q k, (q, D.ref k) ∈ kvs → k ≠ kl) {K : Ks} {a4 : Option D} :
    ∀ (B : List (List Int)), (∀ w ∈ B, w ≠ [] ∧ w.length ≤ 1000 ∧ keyT (tabOf ws) (last w) = true) → ∀ (acc : List (List Int)) (μ : Mem) (a6 a7 : Option D), μ[kl]? = some (.lst (acc.map rowD)) → KeepX (· = kl) μ1 μ → acc.length + 10 * B.length < line →
    (∀ a6 a7 μ', μ'[kl]? = some (.lst ((acc ++ B.flatMap (ext1 (succT (tabOf ws)) (keyT (tabOf ws)) first)).map rowD)) → KeepX (· = kl) μ1 μ' → K.nx (LwE kt first L kh a4 kl a6 a7) μ') →
    (forL keep (stepF (Cc n "_law_ways") (.name 6) l2B) (B.map rowD) (LwE kt first L kh a4 kl a6 a7) μ).wp K
  | [], _, acc, μ, a6, a7, h, hx, hl, q => by
    rw [List.map_nil, wf_nil (hk μ hx)]
    exact q a6 a7 μ (by simpa using h) hx
  | w :: B, hB, acc, μ, a6, a7, h, hx, hl, q => by
    rw [List.map_cons, wf_cons (hk μ hx), w_stepF]
    simp only [List.length_cons] at hl
    obtain ⟨hw0, hwl, hwk⟩ := hB w List.mem_cons_self
    have htμ := hx.at_ _ _ hne ht
    have hTμ := tab_keep hx hold hT
    obtain ⟨k, hg, hs⟩ := hTμ.getK hwk
    have ha := at_lastN hw0
    have hlen : (succT (tabOf ws) (last w)).length ≤ 10 := len10 ((ok.succ (last w)).1.imp fun h => by omega) (ok.succ (last w)).2
    simp [bindT, l2B, lB, f__law_ways, sget, sfor, LwE]
    rw [ws_cons]
    simp [blt, bLen, rowD, item, itemL, ha, htμ, keyOf, hg, walkSeq, hs]
    have hkne : k ≠ kl := by
      obtain ⟨q', hq'⟩ := kGet_mem hg
      exact hold q' k hq'
    refine lw_inner (L := L) (kh := kh) (a4 := a4) (μ1 := μ) (fun μ' hk' => ?_) htμ hTμ hne hold hwl (succT (tabOf ws) (last w)) acc μ a7 h (KeepX.refl _ _) (by omega) fun a7' μ' h' hx' => ?_
    · exact decide_eq_true (getL_ref (hk'.at_ _ _ hkne hs))
    · show (execs (Cc n "_law_ways") .nil (LwE kt first L kh a4 kl (some (rowD w)) a7') μ').wp _
      rw [ws_nil]
      have hll : (acc ++ (List.filter (fun o => decide (o > first) && keyT (tabOf ws) o && !w.contains o) (succT (tabOf ws) (last w))).map fun o => w ++ [o]).length ≤ acc.length + 10 := by
        rw [List.length_append, List.length_map]
        have := List.length_filter_le (fun o => decide (o > first) && keyT (tabOf ws) o && !w.contains o) (succT (tabOf ws) (last w))
        omega
      refine lw_mid ok hk ht hT hne hold B (fun w hw => hB w (List.mem_cons_of_mem _ hw)) _ μ' _ _ h' (hx.trans hx') (by omega) fun a6 a7 μ'' h'' hx'' => ?_
      refine q a6 a7 μ'' ?_ hx''
      rw [h'', List.flatMap_cons]
      rw [List.append_assoc]
      rfl
theorem lw_turns {n : Nat} {kt : Nat} {L : Int} (ok : WsOk ws) (hfk : keyT (tabOf ws) first = true) {μ0 : Mem} {kvs : List (Key × D)} (ht : μ0[kt]? = some (.dict kvs)) (hT : TabR μ0 kvs (tabOf ws)) {K : Ks} :
    ∀ (js : List D) (i : Nat), i + js.length ≤ 7 → ∀ (kh : Nat) (μ : Mem) (a4 a5 a6 a7 : Option D), μ[kh]? = some (.lst ((W (succT (tabOf ws)) (keyT (tabOf ws)) first i).map rowD)) → Keep μ0 μ → μ0.length ≤ kh →
    (∀ kh a4 a5 a6 a7 μ', μ'[kh]? = some (.lst ((W (succT (tabOf ws)) (keyT (tabOf ws)) first (i + js.length)).map rowD)) → Keep μ0 μ' → μ0.length ≤ kh → K.nx [some (.ref kt), some (.int first), some (.int L), some (.ref kh), a4, a5, a6, a7] μ') →
    (forL (fun _ => true) (stepF (Cc n "_law_ways") (.name 4) lB) js [some (.ref kt), some (.int first), some (.int L), some (.ref kh), a4, a5, a6, a7] μ).wp K
  | [], i, hi, kh, μ, a4, a5, a6, a7, h, hk, hkh, q => by
    rw [wf_nil rfl]
    exact q kh a4 a5 a6 a7 μ h hk hkh
  | d :: js, i, hi, kh, μ, a4, a5, a6, a7, h, hk, hkh, q => by
    rw [wf_cons rfl, w_stepF]
    simp only [List.length_cons] at hi
    simp [bindT, lB, f__law_ways, sget, sfor]
    rw [ws_cons]
    simp [frzIf, newL, frz]
    rw [ws_cons]
    have hlt := get_lt h
    have hha : (μ ++ [Cell.lst []])[kh]? = some (.lst ((W (succT (tabOf ws)) (keyT (tabOf ws)) first i).map rowD)) := Keep.app _ _ _ _ h
    simp [walkSeq, hha]
    have hle := W_le (first := first) ok i
    have hp : 10 ^ i ≤ 10 ^ 6 := Nat.pow_le_pow_right (by decide) (by omega)
    have hlin : 0 + 10 * (W (succT (tabOf ws)) (keyT (tabOf ws)) first i).length < line := Nat.lt_of_le_of_lt (show _ ≤ 10000000 by omega) (by decide)
    have hl0 := hk.len
    refine lw_mid (kh := kh) (kl := μ.length) (L := L) (a4 := some d) (μ1 := μ ++ [Cell.lst []]) ok (fun μ' hk' => ?_) (Keep.app _ _ _ _ (hk _ _ ht)) (hT.mono (Keep.l (hk.trans (Keep.app _ _)))) (by have := get_lt ht; omega) (fun q k hq => by have := hT.old hq; omega) _ (fun w hw => ⟨?_, ?_, ?_⟩) [] _ a6 a7 (get_new _ _) (KeepX.refl _ _) hlin fun a6 a7 μ' h' hx' => ?_
    · exact decide_eq_true (getL_ref (hk'.at_ _ _ (by omega) hha))
    · intro e; have := W_len _ _ hw; rw [e] at this; simp at this
    · have := W_len _ _ hw; omega
    · have hne : w ≠ [] := by intro e; have := W_len _ _ hw; rw [e] at this; simp at this
      refine W_key hfk i w hw _ ?_
      unfold last
      rw [List.getLastD_eq_getLast?, List.getLast?_eq_some_getLast hne]
      exact List.getLast_mem hne
    · dsimp only
      rw [ws_cons]
      simp [LwE]
      refine lw_turns ok hfk ht hT js (i + 1) (by omega) μ.length μ' _ _ _ _ (by rw [h', List.nil_append]; rfl) ?_ hl0 fun kh a4 a5 a6 a7 μ'' a b c => q kh a4 a5 a6 a7 μ'' (by rw [List.length_cons, show i + (js.length + 1) = i + 1 + js.length by omega]; exact a) b c
      exact hk.trans (fun k c e => hx'.at_ _ _ (by have := get_lt e; omega) (Keep.app _ _ _ _ e))
theorem run_ways (n : Nat) {kt : Nat} (ok : WsOk ws) (hfk : keyT (tabOf ws) first = true) {μ0 : Mem} {kvs : List (Key × D)} (ht : μ0[kt]? = some (.dict kvs)) (hT : TabR μ0 kvs (tabOf ws)) (j : Nat) (hj : j ≤ 7) :
    (run P (n + 1) "_law_ways" [.ref kt, .int first, .int ((j : Int) + 1)] μ0).wp (fun d μ' => Keep μ0 μ' ∧ ∃ k, d = .ref k ∧ μ'[k]? = some (.lst ((W (succT (tabOf ws)) (keyT (tabOf ws)) first j).map rowD))) fun _ _ => False := by
  refine wp_run (F := f__law_ways) rfl rfl ?_
  show (execs (Cc n "_law_ways") f__law_ways.body [some (.ref kt), some (.int first), some (.int ((j : Int) + 1)), none, none, none, none, none] μ0).wp _
  have hfr : P.fr "_law_ways" = true := by decide
  unfold f__law_ways
  rw [ws_cons]
  simp [frzIf, newL, hfr, frz, frz1, le_line]
  rw [ws_cons]
  have e1 : (j : Int) + 1 - 1 = j := by omega
  have hf62 : fits62 (j : Int) = true := fits62_le (by omega) (by omega)
  simp [walkRange, e1, hf62, range_len]
  refine lw_turns (kt := kt) (L := (j : Int) + 1) ok hfk ht hT _ 0 (by simp; exact hj) (μ0.length + 1) _ _ _ _ _ ?_ (fun k c e => ?_) (by omega) fun kh a4 a5 a6 a7 μ' a b c => ?_
  · have : μ0 ++ [Cell.lst [D.int first], Cell.lst [.ref μ0.length]] = μ0 ++ [Cell.lst [D.int first], Cell.lst [.ref μ0.length]] := rfl
    simp [W, rowD]
  · have := get_lt e
    exact Keep.app _ _ _ _ e
  · dsimp only
    rw [ws_cons]
    simp
    refine ⟨b, ?_⟩
    simpa using a
end
end Pl
set_option Elab.async false
set_option linter.all false
set_option maxRecDepth 100000
set_option maxHeartbeats 1000000
namespace Pl
open G C65
/-! ### rows sorted -/
theorem lts_row : ∀ p q : List Int, D.lts (p.map D.int) (q.map D.int) = ltR p q
  | [], [] => rfl
  | [], _ :: _ => rfl
  | _ :: _, [] => rfl
  | x :: p, y :: q => by
    simp only [List.map_cons, D.lts, ltR, lts_row p q, D.eqv, D.lt]
    by_cases h : x = y
    · subst h; simp
    · have : (x == y) = false := by simpa using h
      rw [this, if_neg (by decide), if_neg h]
theorem alikes_row : ∀ p q : List Int, D.alikes (p.map D.int) (q.map D.int) = true
  | [], _ => by simp [D.alikes]
  | _ :: _, [] => by simp [D.alikes]
  | x :: p, y :: q => by simp [D.alikes, D.alike, alikes_row p q]
theorem norefs_row : ∀ p : List Int, D.norefs (p.map D.int) = true
  | [] => by simp [D.norefs]
  | x :: p => by simp [D.norefs, D.noref, norefs_row p]
theorem depths_row : ∀ p : List Int, D.depths (p.map D.int) = 0
  | [] => by simp [D.depths]
  | x :: p => by simp [D.depths, D.depth, depths_row p]
theorem sortD_rows {rs : List (List Int)} (h : rs.Pairwise fun p q => ltR p q = true) : sortD (rs.map rowD) = some (rs.map rowD) := by
  have h1 : (rs.map rowD).all (fun a => (rs.map rowD).all fun b => a.alike b) = true := by simp [rowD, D.alike, alikes_row]
  have h2 : sortable (rs.map rowD) = true := by
    unfold sortable
    rw [Bool.or_eq_true]
    right
    simp [rowD]
  have h3 : (rs.map rowD).all (fun d => d.noref && decide (d.depth ≤ 60)) = true := by simp [rowD, D.noref, D.depth, norefs_row, depths_row]
  unfold sortD
  rw [h1, h2, h3]
  simp only [Bool.and_self, if_true]
  rw [List.mergeSort_of_pairwise]
  rw [List.pairwise_map]
  refine h.imp fun {p q} h => ?_
  simp only [leD, rowD, D.lt, lts_row, ltR_asym _ _ h]
  rfl
abbrev gB : Ss := sfor (sget f__law_circle.body 2)
abbrev g2B : Ss := sfor (sget gB 0)
section
variable {ws : List Wt}
def closing (ws : List Wt) (t : Int) (j : Nat) : Option (List Int) := (W (succT (tabOf ws)) (keyT (tabOf ws)) t j).find? (close (succT (tabOf ws)) t)
theorem lc_len {n : Nat} {kw kt : Nat} (ok : WsOk ws) {t : Int} (hfk : keyT (tabOf ws) t = true) {μ1 : Mem} {kvs : List (Key × D)} (ht : μ1[kt]? = some (.dict kvs)) (hT : TabR μ1 kvs (tabOf ws)) {K : Ks} {a2 a3 : Option D} :
    ∀ (m j : Nat), j + m ≤ 8 → ∀ (μ : Mem) (a5 a6 : Option D), Keep μ1 μ →
    (∀ a5 a6 μ', (List.range' j m).findSome? (closing ws t) = none → Keep μ1 μ' → K.nx [some (.ref kw), some (.ref kt), a2, a3, some (.int t), a5, a6, none, none] μ') →
    (∀ p μ', (List.range' j m).findSome? (closing ws t) = some p → Keep μ1 μ' → K.rt (rowD p) μ') →
    (forL (fun _ => true) (stepF (Cc (n + 1) "_law_circle") (.name 5) g2B) ((List.range' j m).map fun (i : Nat) => D.int ((i : Int) + 1)) [some (.ref kw), some (.ref kt), a2, a3, some (.int t), a5, a6, none, none] μ).wp K
  | 0, j, hj, μ, a5, a6, hk, q1, q2 => by
    rw [List.range'_zero, List.map_nil, wf_nil rfl]
    exact q1 a5 a6 μ rfl hk
  | m + 1, j, hj, μ, a5, a6, hk, q1, q2 => by
    rw [List.range'_succ, List.map_cons, wf_cons rfl, w_stepF]
    rw [List.range'_succ, List.findSome?_cons] at q1 q2
    simp [bindT, g2B, gB, f__law_circle, sget, sfor]
    rw [ws_cons]
    simp
    refine wp_mono (run_ways n ok hfk (hk _ _ ht) (hT.mono (Keep.l hk)) j (by omega)) (fun d μ' ⟨k2, k', hd, hr⟩ => ?_) fun c μ' h => h.elim
    subst hd
    have hk' := hk.trans k2
    have ht' := hk' _ _ ht
    have hT' := hT.mono (Keep.l hk')
    have hfr : P.fr "_law_circle" = true := by decide
    simp [walkSeq, hr]
    have hle := W_le (first := t) ok j
    have hp : 10 ^ j ≤ 10 ^ 7 := Nat.pow_le_pow_right (by decide) (by omega)
    have hlin : 0 + ((W (succT (tabOf ws)) (keyT (tabOf ws)) t j).map rowD).length ≤ line := Nat.le_trans (show _ ≤ 10000000 by rw [List.length_map]; omega) (by decide)
    have hel : ∀ w ∈ W (succT (tabOf ws)) (keyT (tabOf ws)) t j, elF (Cc (n + 1) "_law_circle") (.name 8) (.cons (.cmp .isin (.var 4) (.idx (.var 1) (.idx (.var 8) (.bin .sub (.blt .len (.cons (.var 8) .nil)) (.lit (.int 1)))))) .nil) (.var 8) (wipeE [some (.ref kw), some (.ref kt), a2, a3, some (.int t), some (.int ((j : Int) + 1)), a6, none, none] [7, 8]) (rowD w) μ' = .ok (if close (succT (tabOf ws)) t w then some (rowD w) else none) μ' := fun w hw => by
      have hw0 : w ≠ [] := by intro e; have := W_len _ _ hw; rw [e] at this; simp at this
      have hwk : keyT (tabOf ws) (last w) = true := by
        refine W_key hfk j w hw _ ?_
        unfold last
        rw [List.getLastD_eq_getLast?, List.getLast?_eq_some_getLast hw0]
        exact List.getLast_mem hw0
      obtain ⟨kk, hg, hs⟩ := hT'.getK hwk
      have ha := at_lastN hw0
      have hin : inD μ' (.int t) (.ref kk) = some (decide (t ∈ succT (tabOf ws) (last w))) := inD_int hs t
      have hwp : (elF (Cc (n + 1) "_law_circle") (.name 8) (.cons (.cmp .isin (.var 4) (.idx (.var 1) (.idx (.var 8) (.bin .sub (.blt .len (.cons (.var 8) .nil)) (.lit (.int 1)))))) .nil) (.var 8) (wipeE [some (.ref kw), some (.ref kt), a2, a3, some (.int t), some (.int ((j : Int) + 1)), a6, none, none] [7, 8]) (rowD w) μ').wp (fun r μ'' => μ'' = μ' ∧ r = if close (succT (tabOf ws)) t w then some (rowD w) else none) fun _ _ => False := by
        rw [w_elF]
        simp [bindT, wipeE, blt, bLen, rowD, item, itemL, ha, ht', keyOf, hg, hin]
        unfold close
        by_cases h : t ∈ succT (tabOf ws) (last w)
        · simp [h]
        · simp [h]
      obtain ⟨a, μ'', e, rfl, rfl⟩ := wp_get hwp
      exact e
    have hlc := wp_lcP (keep := fun μ => decide (getL μ (.ref k') = some ((W (succT (tabOf ws)) (keyT (tabOf ws)) t j).map rowD))) (el := elF (Cc (n + 1) "_law_circle") (.name 8) (.cons (.cmp .isin (.var 4) (.idx (.var 1) (.idx (.var 8) (.bin .sub (.blt .len (.cons (.var 8) .nil)) (.lit (.int 1)))))) .nil) (.var 8) (wipeE [some (.ref kw), some (.ref kt), a2, a3, some (.int t), some (.int ((j : Int) + 1)), a6, none, none] [7, 8])) (fr := P.fr "_law_circle") (μ := μ') (fun d => match d with
      | .lst ds => if close (succT (tabOf ws)) t (ds.map fun d => match d with
        | .int i => i
        | _ => 0) then some d else none
      | _ => none) (decide_eq_true (getL_ref hr)) (ds := (W (succT (tabOf ws)) (keyT (tabOf ws)) t j).map rowD) (acc := []) (fun d hd => ?_) (fun d hd y hy => ?_) hlin
    rotate_left
    · obtain ⟨w, hw, rfl⟩ := List.mem_map.mp hd
      rw [hel w hw]
      have : (w.map D.int).map (fun d => match d with
        | .int i => i
        | _ => 0) = w := by rw [List.map_map]; exact List.map_id' w
      simp only [rowD, this]
    · obtain ⟨w, hw, rfl⟩ := List.mem_map.mp hd
      simp only [rowD] at hy
      split at hy
      · cases hy; rfl
      · cases hy
    have hfm : ∀ l : List (List Int), (l.map rowD).filterMap (fun d => match d with
      | .lst ds => if close (succT (tabOf ws)) t (ds.map fun d => match d with
        | .int i => i
        | _ => 0) then some d else none
      | _ => none) = (l.filter (close (succT (tabOf ws)) t)).map rowD := fun l => by
      induction l with
      | nil => rfl
      | cons w l ih =>
        have : (w.map D.int).map (fun d => match d with
          | .int i => i
          | _ => 0) = w := by rw [List.map_map]; exact List.map_id' w
        rw [List.map_cons, List.filterMap_cons, ih, List.filter_cons]
        simp only [rowD, this]
        cases close (succT (tabOf ws)) t w <;> simp [rowD]
    rw [hfm, List.nil_append] at hlc
    simp only [hlc, wp_ok]
    simp [newL]
    rw [ws_cons]
    have hcl : closing ws t j = ((W (succT (tabOf ws)) (keyT (tabOf ws)) t j).filter (close (succT (tabOf ws)) t)).head? := by
      unfold closing
      rw [List.head?_filter]
    cases hf : (W (succT (tabOf ws)) (keyT (tabOf ws)) t j).filter (close (succT (tabOf ws)) t) with
    | nil =>
      rw [hf] at hcl
      rw [hcl] at q1 q2
      simp [blt, bLen]
      exact lc_len ok hfk ht hT m (j + 1) (by omega) _ _ _ (hk'.trans (Keep.app _ _)) q1 q2
    | cons p r =>
      rw [hf] at hcl
      rw [hcl] at q2
      have hsr := sortD_rows (rs := p :: r) (by rw [← hf]; exact (W_asc (fun x => (ok.succ x).1) j).filter _)
      have hpos : (0 : Int) < (r.length : Int) + 1 := by omega
      simp [blt, bLen, hpos]
      rw [ws_cons]
      simp only [List.map_cons] at hsr
      simp [blt, bSorted, getL, hsr, newL, item, itemL, at_, place, hpos]
      exact q2 p _ rfl (hk'.trans (Keep.app _ _))
def lawC (ws : List Wt) : Option (List Int) := (keys ws).findSome? fun t => (List.range' 0 ws.length).findSome? (closing ws t)
theorem lc_loop {n : Nat} {kw kt : Nat} (ok : WsOk ws) {μ1 : Mem} {kvs : List (Key × D)} (hw : μ1[kw]? = some (.lst (ws.map Wt.d))) (ht : μ1[kt]? = some (.dict kvs)) (hT : TabR μ1 kvs (tabOf ws)) {keep : Mem → Bool} (hk : ∀ μ, Keep μ1 μ → keep μ = true) {K : Ks} {a2 a3 : Option D} : ∀ (ts : List Int), (∀ t ∈ ts, keyT (tabOf ws) t = true) → ∀ (μ : Mem) (a4 a5 a6 : Option D), Keep μ1 μ →
    (∀ a4 a5 a6 μ', ts.findSome? (fun t => (List.range' 0 ws.length).findSome? (closing ws t)) = none → Keep μ1 μ' → K.nx [some (.ref kw), some (.ref kt), a2, a3, a4, a5, a6, none, none] μ') →
    (∀ p μ', ts.findSome? (fun t => (List.range' 0 ws.length).findSome? (closing ws t)) = some p → Keep μ1 μ' → K.rt (rowD p) μ') →
    (forL keep (stepF (Cc (n + 1) "_law_circle") (.name 4) gB) (ts.map D.int) [some (.ref kw), some (.ref kt), a2, a3, a4, a5, a6, none, none] μ).wp K
  | [], _, μ, a4, a5, a6, k1, q1, q2 => by
    rw [List.map_nil, wf_nil (hk μ k1)]
    exact q1 a4 a5 a6 μ rfl k1
  | t :: ts, hb, μ, a4, a5, a6, k1, q1, q2 => by
    rw [List.map_cons, wf_cons (hk μ k1), w_stepF]
    rw [List.findSome?_cons] at q1 q2
    simp [bindT, gB, f__law_circle, sget, sfor]
    rw [ws_cons]
    have hlen := ok.len
    have hwr : walkRange [.int 1, .int ((ws.length : Int) + 1)] = some ⟨(List.range' 0 ws.length).map fun (i : Nat) => D.int ((i : Int) + 1), fun _ => true⟩ := by
      have h1 : fits62 1 = true := by decide
      have h2 : fits62 ((ws.length : Int) + 1) = true := fits62_le (by omega) (by omega)
      simp only [walkRange, h1, h2, Bool.and_self, if_true, rangeL]
      have h3 : ((ws.length : Int) + 1 - 1).toNat = ws.length := by omega
      rw [h3, ← List.range_eq_range']
      simp only [Int.add_comm]
    have hb1 : blt .len [.ref kw] μ = .ok (.int ws.length) μ := by simp only [blt, bLen, k1 _ _ hw, List.length_map]
    simp [hb1, hwr]
    refine lc_len ok (hb t List.mem_cons_self) (k1 _ _ ht) (hT.mono (Keep.l k1)) ws.length 0 (by omega) μ a5 a6 (Keep.refl _) (fun a5 a6 μ' hn hk' => ?_) (fun p μ' hp hk' => ?_)
    · dsimp only
      rw [hn] at q1 q2
      exact lc_loop ok hw ht hT hk ts (fun t h => hb t (List.mem_cons_of_mem _ h)) μ' _ _ _ (k1.trans hk') q1 q2
    · rw [hp] at q2
      exact q2 p μ' rfl (k1.trans hk')
theorem run_lcircle (n : Nat) {kw : Nat} (ok : WsOk ws) {μ0 : Mem} (hw : μ0[kw]? = some (.lst (ws.map Wt.d))) :
    (run P (n + 2) "_law_circle" [.ref kw] μ0).wp (fun d μ' => Keep μ0 μ' ∧ d = match lawC ws with
      | none => .non
      | some p => rowD p) fun _ _ => False := by
  refine wp_run (F := f__law_circle) rfl rfl ?_
  show (execs (Cc (n + 1) "_law_circle") f__law_circle.body [some (.ref kw), none, none, none, none, none, none, none, none] μ0).wp _
  unfold f__law_circle
  rw [ws_cons]
  simp
  rw [ws_cons]
  have hw1 := Keep.app μ0 [Cell.dict []] _ _ hw
  have hlw := get_lt hw
  simp [walkSeq, hw1]
  refine tab_loop (C := Cc (n + 1) "_law_circle") (f := "_law_next") (fun r μ => run_next n r μ) (kt := μ0.length) (fun μ hk => ?_) (ws := ws) ok.nd (by have := ok.len; omega) (get_new _ _) fun a2 a3 kvs μ kx kl ht hT => ?_
  · have := hk.at_ _ _ (by omega) hw1
    exact decide_eq_true (getL_ref this)
  · dsimp only
    rw [ws_cons]
    have hk0 : Keep μ0 μ := fun k c e => kx.at_ _ _ (by have := get_lt e; omega) (Keep.app _ _ _ _ e)
    have hsd := sortD_ints (ws.map (·.1))
    have hkd : kvs.map (fun p => keyD p.1) = (ws.map (·.1)).map D.int := by rw [hT.keysD]; simp [tabOf]
    simp [blt, bList, getS, getL, ht, hkd, newL, bSorted]
    rw [List.map_map] at hsd
    simp only [Function.comp_def] at hsd ⊢
    have hsd' : sortD (ws.map fun x => D.int x.fst) = some ((keys ws).map D.int) := hsd
    simp [hsd', newL, walkSeq]
    let μ1 : Mem := μ ++ [Cell.lst (ws.map fun x => D.int x.1), Cell.lst ((keys ws).map D.int)]
    have hks : μ1[μ.length + 1]? = some (.lst ((keys ws).map D.int)) := by simp [μ1]
    refine lc_loop (n := n) (ws := ws) (μ1 := μ1) (kvs := kvs) (kt := μ0.length) ok (Keep.app _ _ _ _ (hk0 _ _ hw)) (Keep.app _ _ _ _ ht) (hT.mono (Keep.l (Keep.app _ _))) (fun μ' hk => ?_) (keys ws) (fun t h => ?_) μ1 _ _ _ (Keep.refl _) (fun a4 a5 a6 μ' hf hk => ?_) (fun p μ' hf hk => ?_)
    · exact decide_eq_true (getL_ref (hk _ _ hks))
    · obtain ⟨w, hw, rfl⟩ := keys_mem h
      exact key_of hw
    · dsimp only
      rw [ws_cons]
      simp
      refine ⟨(hk0.trans (Keep.app _ _)).trans hk, ?_⟩
      unfold lawC
      rw [hf]
    · refine ⟨(hk0.trans (Keep.app _ _)).trans hk, ?_⟩
      unfold lawC
      rw [hf]
/-! ### the two are one -/
theorem some_range {f : Nat → Option (List Int)} {p : List Int} : ∀ (m j i : Nat), j ≤ i → i < j + m → (∀ a, a < i → f a = none) → f i = some p → (List.range' j m).findSome? f = some p
  | 0, j, i, h1, h2, _, _ => by omega
  | m + 1, j, i, h1, h2, h3, h4 => by
    rw [List.range'_succ, List.findSome?_cons]
    by_cases e : j = i
    · subst e; rw [h4]
    · rw [h3 j (by omega)]
      exact some_range m (j + 1) i (by omega) (by omega) h3 h4
theorem none_range {f : Nat → Option (List Int)} (h : ∀ a, f a = none) (j m : Nat) : (List.range' j m).findSome? f = none := by
  rw [List.findSome?_eq_none_iff]
  exact fun a _ => h a
theorem keyT_mem {x : Int} (h : keyT (tabOf ws) x = true) : x ∈ ws.map (·.1) := by
  unfold keyT at h
  cases e : (tabOf ws).lookup x with
  | none => rw [e] at h; cases h
  | some s =>
    obtain ⟨w, hw, e2⟩ := List.mem_map.mp (lookup_mem e)
    cases e2
    exact List.mem_map.mpr ⟨w, hw, rfl⟩
theorem circle_one (ok : WsOk ws) {t : Int} (ht : t ∈ keys ws) : bfs (succT (tabOf ws)) t 20 [[t]] [t] = (List.range' 0 ws.length).findSome? (closing ws t) := by
  obtain ⟨w, hw, rfl⟩ := keys_mem ht
  have hk := key_of hw
  have o := ok.ok hk
  have hb := bfs_ok o (fun x => (ok.succ x).2) 20 0 [[w.1]] [w.1] (lv0 hk) (fun x hx => by simp at hx; subst hx; exact ok.tb w hw) (fun j hj => by omega) (by simp [meas])
  cases e : bfs (succT (tabOf ws)) w.1 20 [[w.1]] [w.1] with
  | none =>
    rw [e] at hb
    exact (none_range hb 0 ws.length).symm
  | some p =>
    rw [e] at hb
    obtain ⟨j, h1, h2⟩ := hb
    refine (some_range ws.length 0 j (by omega) ?_ h1 h2).symm
    have hm := List.mem_of_find?_eq_some h2
    have := pigeonI (W_nd _ _ hm) fun x hx => keyT_mem (W_key hk _ _ hm x hx)
    rw [W_len _ _ hm, List.length_map] at this
    omega
theorem findSome_congr {α β : Type} {f g : α → Option β} : ∀ {l : List α}, (∀ x ∈ l, f x = g x) → l.findSome? f = l.findSome? g
  | [], _ => rfl
  | a :: l, h => by rw [List.findSome?_cons, List.findSome?_cons, h a List.mem_cons_self, findSome_congr fun x hx => h x (List.mem_cons_of_mem _ hx)]
theorem first_law (ok : WsOk ws) : firstC ws = lawC ws := findSome_congr fun t ht => circle_one ok ht
end
end Pl
set_option Elab.async false
set_option linter.all false
set_option maxRecDepth 100000
set_option maxHeartbeats 1000000
namespace Pl
open G C65
theorem P_fr {f : String} (h : f ≠ "circle_from") : P.fr f = true := by
  show (f != "circle_from") = true
  simpa using h
def scriptD (ns : List Int) : D := .lst (ns.map D.int)
theorem run_cell (n : Nat) (ns : List Int) (k : Nat) (μ : Mem) : ∃ c : Int, 0 ≤ c ∧ run P (n + 1) "_law_cell" [scriptD ns, .int k] μ = .ok (.int c) μ := by
  rw [run_of (F := f__law_cell) rfl]
  by_cases h : k < ns.length
  · have h1 : (k : Int) < (ns.length : Int) := by omega
    have hat : at_ (ns.map D.int) (k : Int) = some (.int ns[k]) := by
      unfold at_ place
      rw [if_pos (by omega), if_pos (by simpa using h), Option.bind_some, Int.toNat_natCast, List.getElem?_map, List.getElem?_eq_getElem h]
      rfl
    refine ⟨if ns[k] < 0 then -ns[k] else ns[k], by split <;> omega, ?_⟩
    simp [f__law_cell, runFn, execs, exec, Out.of, Out.test, evalE, evalEs, R.bind, cmpR, scriptD, blt, bLen, h1, truth, item, itemL, hat, bInt, bAbs]
  · refine ⟨0, Int.le_refl _, ?_⟩
    have h1 : ¬ (k : Int) < (ns.length : Int) := by omega
    simp [f__law_cell, runFn, execs, exec, Out.of, Out.test, evalE, evalEs, R.bind, cmpR, scriptD, blt, bLen, h1, truth]
abbrev dgB : Ss := sfor (sget f__law_digits.body 2)
theorem dg_loop {n : Nat} {kd : Nat} {μ1 : Mem} {lg : Bool} {K : Ks} : ∀ (m j : Nat), j + m ≤ 1000 → ∀ (c : Int) (ds : List Int) (μ : Mem) (a5 : Option D), ds.length = j → μ[kd]? = some (.lst (ds.map D.int)) → KeepX (· = kd) μ1 μ → (∀ x ∈ ds, 0 ≤ x ∧ x < 27720) →
    (∀ (c : Int) (ds : List Int) (μ' : Mem) (a5 : Option D), ds.length = j + m → μ'[kd]? = some (.lst (ds.map D.int)) → KeepX (· = kd) μ1 μ' → (∀ x ∈ ds, 0 ≤ x ∧ x < 27720) → K.nx [some (.int c), some (.int 27720), some (.int 10), some (.ref kd), some (.bl lg), a5] μ') →
    (forL (fun _ => true) (stepF (Cc n "_law_digits") (.name 5) dgB) ((List.range' j m).map fun (i : Nat) => D.int (i : Int)) [some (.int c), some (.int 27720), some (.int 10), some (.ref kd), some (.bl lg), a5] μ).wp K
  | 0, j, hj, c, ds, μ, a5, hl, h, hk, hb, q => by
    rw [List.range'_zero, List.map_nil, wf_nil rfl]
    exact q c ds μ a5 hl h hk hb
  | m + 1, j, hj, c, ds, μ, a5, hl, h, hk, hb, q => by
    rw [List.range'_succ, List.map_cons, wf_cons rfl, w_stepF]
    have hal : (ds.map D.int).length < line := by rw [List.length_map]; exact lt_line (by omega)
    have s1 : small 48271 = true := by decide
    have s2 : small 69621 = true := by decide
    have s3 : small (j : Int) = true := small_le (by omega) (by omega)
    have s4 : small ((j : Int) + 1) = true := small_le (by omega) (by omega)
    simp [bindT, dgB, f__law_digits, sget, sfor]
    rw [ws_cons]
    cases lg with
    | true =>
      simp
      rw [ws_cons]
      simp [recv_app h, blt, bInt, bin_mod, bm_app h hal, D.cold]
      rw [ws_cons]
      simp [bin_fdiv]
      refine dg_loop m (j + 1) (by omega) _ (ds ++ [c % 27720]) _ _ (by simp [hl]) ?_ (hk.trans (KeepX.set rfl)) (fun x hx => ?_) fun c ds μ' a5 e => q c ds μ' a5 (by omega)
      · rw [get_set h]; simp
      · rcases List.mem_append.mp hx with hx | hx
        · exact hb x hx
        · simp at hx; subst hx
          exact ⟨Int.emod_nonneg _ (by decide), Int.emod_lt_of_pos _ (by decide)⟩
    | false =>
      simp
      rw [ws_cons]
      simp [recv_app h, blt, bInt, bin_mod, bin_fdiv, bin_mulL, mulOk, s1, s2, s3, s4, bm_app h hal, D.cold]
      refine dg_loop m (j + 1) (by omega) _ (ds ++ [(c * 48271 + ((j : Int) + 1) * ((j : Int) + 5) * 69621 + c / 97 * (j : Int)) % 2147483647 % 27720]) _ _ (by simp [hl]) ?_ (hk.trans (KeepX.set rfl)) (fun x hx => ?_) fun c ds μ' a5 e => q c ds μ' a5 (by omega)
      · rw [get_set h]; simp
      · rcases List.mem_append.mp hx with hx | hx
        · exact hb x hx
        · simp at hx; subst hx
          exact ⟨Int.emod_nonneg _ (by decide), Int.emod_lt_of_pos _ (by decide)⟩
theorem run_digits (n : Nat) (c : Int) (μ : Mem) : (run P (n + 1) "_law_digits" [.int c, .int 27720, .int 10] μ).wp (fun d μ' => Keep μ μ' ∧ ∃ (k : Nat) (ds : List Int), d = .ref k ∧ μ'[k]? = some (.lst (ds.map D.int)) ∧ ds.length = 10 ∧ ∀ x ∈ ds, 0 ≤ x ∧ x < 27720) fun _ _ => False := by
  refine wp_run (F := f__law_digits) rfl rfl ?_
  show (execs (Cc n "_law_digits") f__law_digits.body [some (.int c), some (.int 27720), some (.int 10), none, none, none] μ).wp _
  unfold f__law_digits
  rw [ws_cons]
  simp [frzIf, newL, frz]
  rw [ws_cons]
  have hp : G.bin .pow (.int 10) (.int 18) (μ ++ [Cell.lst []]) = .ok (.int (10 ^ 18)) (μ ++ [Cell.lst []]) := rfl
  simp [hp]
  rw [ws_cons]
  have hw : walkRange [.int 10] = some ⟨(List.range' 0 10).map fun (i : Nat) => D.int (i : Int), fun _ => true⟩ := by rfl
  simp only [w_for, wi_range, wes_cons, wes_nil, we_var, List.getElem?_cons_succ, List.getElem?_cons_zero, opt_some, hw]
  refine dg_loop (μ1 := μ ++ [Cell.lst []]) (kd := μ.length) 10 0 (by decide) c [] _ _ rfl (get_new _ _) (KeepX.refl _ _) (by simp) fun c ds μ' a5 h1 h2 h3 h4 => ?_
  dsimp only
  rw [ws_cons]
  simp
  exact ⟨fun k c e => h3.at_ _ _ (by have := get_lt e; omega) (Keep.app _ _ _ _ e), ds, h2, by omega, fun x hx => h4 x hx⟩
structure RsOk (r : Rs) : Prop where
  asc : r.succ.Pairwise (· < ·)
  sb : ∀ y ∈ r.succ, 0 ≤ y ∧ y < 10
  fm : match r with
    | .task o => 0 ≤ o ∧ o < 10
    | .res n h => (0 ≤ n ∧ n < 10) ∧ (0 ≤ h ∧ h < 10)
    | .scope s _ => 0 ≤ s ∧ s < 10
    | .time o => 0 ≤ o ∧ o < 10
    | .send o => 0 ≤ o ∧ o < 10
    | .recv o => 0 ≤ o ∧ o < 10
    | .sel o => 0 ≤ o ∧ o < 10
theorem run_wait (n : Nat) (x t : Int) (μ : Mem) (h0 : 0 ≤ x) (h1 : x < 27720) : (run P (n + 1) "_law_wait" [.int x, .int t] μ).wp (fun d μ' => Keep μ μ' ∧ ∃ r, d = Rs.d r ∧ RsOk r) fun _ _ => False := by
  refine wp_run (F := f__law_wait) rfl rfl ?_
  show (execs (Cc n "_law_wait") f__law_wait.body [some (.int x), some (.int t), none, none, none, none, none] μ).wp _
  have hfr : P.fr "_law_wait" = true := P_fr (by decide)
  have hw0 : 0 ≤ x % 9 := Int.emod_nonneg _ (by decide)
  have hw9 : x % 9 < 9 := Int.emod_lt_of_pos _ (by decide)
  have ho : 0 ≤ x / 9 % 10 ∧ x / 9 % 10 < 10 := ⟨Int.emod_nonneg _ (by decide), Int.emod_lt_of_pos _ (by decide)⟩
  have go1 : ∀ r : Rs, RsOk r → ∀ μ', Keep μ μ' → Keep μ μ' ∧ ∃ r', r.d = Rs.d r' ∧ RsOk r' := fun r h μ' k => ⟨k, r, rfl, h⟩
  unfold f__law_wait
  rw [ws_cons]
  simp [bin_mod]
  rw [ws_cons]
  simp [bin_mod, bin_fdiv]
  rw [ws_cons]
  by_cases c0 : x % 9 = 0
  · simp [c0]
    rw [ws_cons]
    simp [frzIf, hfr, frz, frz1, le_line]
    exact go1 (.time _) ⟨by simp [Rs.succ], by simp [Rs.succ], ho⟩ _ (Keep.refl _)
  · simp [c0]
    rw [ws_cons]
    by_cases c1 : x % 9 < 4
    · simp [c1]
      rw [ws_cons]
      simp [frzIf, hfr, frz, frz1, le_line]
      exact go1 (.task _) ⟨by simp [Rs.succ], by simpa [Rs.succ] using ho, ho⟩ _ (Keep.refl _)
    · simp [c1]
      rw [ws_cons]
      by_cases c2 : x % 9 = 4
      · simp [c2]
        rw [ws_cons]
        simp [frzIf, hfr, frz, frz1, le_line]
        exact go1 (.send _) ⟨by simp [Rs.succ], by simp [Rs.succ], ho⟩ _ (Keep.refl _)
      · simp [c2]
        rw [ws_cons]
        by_cases c3 : x % 9 = 5
        · simp [c3]
          rw [ws_cons]
          simp [frzIf, hfr, frz, frz1, le_line, bin_mod, bin_fdiv]
          have hh : 0 ≤ x / 90 % 10 ∧ x / 90 % 10 < 10 := ⟨Int.emod_nonneg _ (by decide), Int.emod_lt_of_pos _ (by decide)⟩
          exact go1 (.res _ _) ⟨by simp [Rs.succ], by simpa [Rs.succ] using hh, ⟨⟨by omega, by omega⟩, hh⟩⟩ _ (Keep.refl _)
        · simp [c3]
          rw [ws_cons]
          by_cases c4 : x % 9 = 6
          · simp [c4]
            rw [ws_cons]
            simp [frzIf, hfr, frz, frz1, le_line, newL]
            exact go1 (.sel _) ⟨by simp [Rs.succ], by simp [Rs.succ], ho⟩ _ (fun k c e => by
              have := get_lt e
              rw [List.getElem?_append_left this, e])
          · simp [c4]
            rw [ws_cons]
            by_cases c5 : x % 9 = 7
            · simp [c5]
              rw [ws_cons]
              simp [frzIf, hfr, frz, frz1, le_line]
              exact go1 (.recv _) ⟨by simp [Rs.succ], by simp [Rs.succ], ho⟩ _ (Keep.refl _)
            · simp [c5]
              rw [ws_cons]
              have hw : walkRange [.int 10] = some ⟨(List.range 10).map fun (i : Nat) => D.int (i : Int), fun _ => true⟩ := by rfl
              have hel : ∀ i ∈ List.range 10, elF (Cc n "_law_wait") (.name 6) (.cons (.cmp .eq (.bin .mod (.bin .fdiv (.var 0) (.bin .mul (.lit (.int 90)) (.bin .add (.var 6) (.lit (.int 1))))) (.lit (.int 3))) (.lit (.int 0))) .nil) (.var 6) (wipeE [some (.int x), some (.int t), some (.int (x % 9)), some (.int (x / 9 % 10)), none, none, none] [5, 6]) (D.int ((i : Nat) : Int)) μ = .ok (if x / (90 * ((i : Int) + 1)) % 3 = 0 then some (.int i) else none) μ := fun i hi => by
                have hi : i < 10 := List.mem_range.mp hi
                have s1 : small 90 = true := by decide
                have hwp : (elF (Cc n "_law_wait") (.name 6) (.cons (.cmp .eq (.bin .mod (.bin .fdiv (.var 0) (.bin .mul (.lit (.int 90)) (.bin .add (.var 6) (.lit (.int 1))))) (.lit (.int 3))) (.lit (.int 0))) .nil) (.var 6) (wipeE [some (.int x), some (.int t), some (.int (x % 9)), some (.int (x / 9 % 10)), none, none, none] [5, 6]) (D.int ((i : Nat) : Int)) μ).wp (fun r μ'' => μ'' = μ ∧ r = if x / (90 * ((i : Int) + 1)) % 3 = 0 then some (.int i) else none) fun _ _ => False := by
                  rw [w_elF]
                  have b1 : (0 : Int) < 90 * ((i : Int) + 1) := by omega
                  have b2 : 90 * ((i : Int) + 1) < 18446744073709551616 := by omega
                  simp [bindT, wipeE, bin_mulL, mulOk, s1, bin_fdiv b1 b2, bin_mod]
                  by_cases h : x / (90 * ((i : Int) + 1)) % 3 = 0
                  · simp [h]
                  · simp [h]
                obtain ⟨a, μ'', e, rfl, rfl⟩ := wp_get hwp
                exact e
              have hlc := wp_lcP (keep := fun _ => true) (el := elF (Cc n "_law_wait") (.name 6) (.cons (.cmp .eq (.bin .mod (.bin .fdiv (.var 0) (.bin .mul (.lit (.int 90)) (.bin .add (.var 6) (.lit (.int 1))))) (.lit (.int 3))) (.lit (.int 0))) .nil) (.var 6) (wipeE [some (.int x), some (.int t), some (.int (x % 9)), some (.int (x / 9 % 10)), none, none, none] [5, 6])) (fr := P.fr "_law_wait") (μ := μ) (fun d => match d with
                | .int i => if x / (90 * (i + 1)) % 3 = 0 then some (.int i) else none
                | _ => none) rfl (ds := (List.range 10).map fun (i : Nat) => D.int (i : Int)) (acc := []) (fun d hd => ?_) (fun d hd y hy => ?_) (le_line (by decide))
              rotate_left
              · obtain ⟨i, hi, rfl⟩ := List.mem_map.mp hd
                exact hel i hi
              · obtain ⟨i, hi, rfl⟩ := List.mem_map.mp hd
                simp only at hy
                split at hy
                · cases hy; rfl
                · cases hy
              have hfm : ∀ l : List Nat, (l.map fun (i : Nat) => D.int (i : Int)).filterMap (fun d => match d with
                | .int i => if x / (90 * (i + 1)) % 3 = 0 then some (D.int i) else none
                | _ => none) = ((l.map fun (i : Nat) => (i : Int)).filter fun i => decide (x / (90 * (i + 1)) % 3 = 0)).map D.int := fun l => by
                induction l with
                | nil => rfl
                | cons i l ih =>
                  rw [List.map_cons, List.map_cons, List.filterMap_cons, ih, List.filter_cons]
                  by_cases h : x / (90 * ((i : Int) + 1)) % 3 = 0 <;> simp [h]
              rw [hfm, List.nil_append] at hlc
              simp only [w_asg, we_lc, wi_range, wes_cons, wes_nil, we_lit, hw, opt_some, hlc, wp_ok]
              simp [newL]
              rw [ws_cons]
              simp [frzIf, hfr, frz, frz1, le_line]
              refine go1 (.scope _ (((List.range 10).map fun (i : Nat) => (i : Int)).filter fun i => decide (x / (90 * (i + 1)) % 3 = 0))) ⟨?_, fun y hy => ?_, ho⟩ _ (fun k c e => ?_)
              · show List.Pairwise _ (List.filter _ _)
                refine List.Pairwise.filter _ ?_
                decide
              · have := (List.mem_filter.mp hy).1
                obtain ⟨i, hi, rfl⟩ := List.mem_map.mp this
                have := List.mem_range.mp hi
                omega
              · have := get_lt e
                rw [List.getElem?_append_left this, e]
end Pl
set_option Elab.async false
set_option linter.all false
set_option maxRecDepth 100000
set_option maxHeartbeats 1000000
namespace Pl
open G C65
/-! ### written forms -/
theorem fits_small {i : Int} (h : i.natAbs < 100) : fits i = true := by
  unfold fits
  exact decide_eq_true (Nat.lt_of_lt_of_le h (Nat.le_trans (show 100 ≤ 2 ^ 7 by decide) (Nat.pow_le_pow_right (by decide) (by decide))))
theorem text_one {i : Int} (h0 : 0 ≤ i) (h1 : i < 10) : (textI i).length = 1 := by
  have : i = 0 ∨ i = 1 ∨ i = 2 ∨ i = 3 ∨ i = 4 ∨ i = 5 ∨ i = 6 ∨ i = 7 ∨ i = 8 ∨ i = 9 := by omega
  rcases this with rfl | rfl | rfl | rfl | rfl | rfl | rfl | rfl | rfl | rfl <;> decide
mutual
/-- a bound of the written form -/
def wtD : D → Nat
  | .non => 4
  | .bl _ => 5
  | .int _ => 1
  | .str x => x.length + 2
  | .tup ds => wtDs ds + 3
  | .lst ds => wtDs ds + 2
  | .ref _ => 0
def wtDs : List D → Nat
  | [] => 0
  | d :: ds => wtD d + 2 + wtDs ds
end
mutual
def okD : D → Bool
  | .int i => decide (0 ≤ i) && decide (i < 10)
  | .str x => x.all plainC
  | .tup ds => okDs ds
  | .lst ds => okDs ds
  | .ref _ => false
  | _ => true
def okDs : List D → Bool
  | [] => true
  | d :: ds => okD d && okDs ds
end
theorem join_len (ts : List Tx) : (joinT [',', ' '] ts).length ≤ (ts.map fun t => t.length + 2).sum := by
  match ts with
  | [] => simp [joinT]
  | [x] => simp [joinT]
  | x :: y :: r =>
    have := join_len (y :: r)
    simp only [joinT, List.length_append, List.map_cons, List.sum_cons, List.length_cons, List.length_nil] at *
    omega
mutual
theorem repr_ok : ∀ d : D, okD d = true → ∃ t, reprT d = some t ∧ t.length ≤ wtD d
  | .non, _ => ⟨['N', 'o', 'n', 'e'], by simp only [reprT], by simp [wtD]⟩
  | .bl b, _ => ⟨if b then ['T', 'r', 'u', 'e'] else ['F', 'a', 'l', 's', 'e'], by simp only [reprT], by cases b <;> simp [wtD]⟩
  | .int i, h => by
    simp only [okD, Bool.and_eq_true, decide_eq_true_eq] at h
    exact ⟨textI i, by simp only [reprT, fits_small (i := i) (by omega), if_true], by rw [text_one h.1 h.2]; simp [wtD]⟩
  | .str x, h => by
    simp only [okD] at h
    exact ⟨'\'' :: (x ++ ['\'']), by simp only [reprT, h, if_true], by simp [wtD]⟩
  | .tup ds, h => by
    simp only [okD] at h
    obtain ⟨ts, h1, h2⟩ := reprs_ok ds h
    refine ⟨'(' :: (joinT [',', ' '] ts ++ (if ts.length = 1 then [',', ')'] else [')'])), by simp only [reprT, h1, Option.map_some], ?_⟩
    have := join_len ts
    simp only [wtD, List.length_cons, List.length_append]
    split <;> simp <;> omega
  | .lst ds, h => by
    simp only [okD] at h
    obtain ⟨ts, h1, h2⟩ := reprs_ok ds h
    refine ⟨'[' :: (joinT [',', ' '] ts ++ [']']), by simp only [reprT, h1, Option.map_some], ?_⟩
    have := join_len ts
    simp only [wtD, List.length_cons, List.length_append]
    simp
    omega
  | .ref _, h => by simp [okD] at h
theorem reprs_ok : ∀ ds : List D, okDs ds = true → ∃ ts, reprTs ds = some ts ∧ (ts.map fun t => t.length + 2).sum ≤ wtDs ds
  | [], _ => ⟨[], by simp only [reprTs], by simp⟩
  | d :: ds, h => by
    simp only [okDs, Bool.and_eq_true] at h
    obtain ⟨t, h1, h2⟩ := repr_ok d h.1
    obtain ⟨ts, h3, h4⟩ := reprs_ok ds h.2
    refine ⟨t :: ts, by simp only [reprTs, h1, h3], ?_⟩
    simp only [List.map_cons, List.sum_cons, wtDs]
    omega
end
theorem okDs_ints : ∀ ns : List Int, (∀ x ∈ ns, 0 ≤ x ∧ x < 10) → okDs (ns.map D.int) = true ∧ wtDs (ns.map D.int) = 3 * ns.length
  | [], _ => by simp [okDs, wtDs]
  | x :: ns, h => by
    have ih := okDs_ints ns fun y hy => h y (List.mem_cons_of_mem _ hy)
    have hx := h x List.mem_cons_self
    simp only [List.map_cons, okDs, okD, wtDs, wtD, ih.1, ih.2, List.length_cons, hx.1, hx.2, decide_true, Bool.and_self, true_and]
    omega
theorem depth_ints (ns : List Int) : D.depths (ns.map D.int) = 0 := depths_row ns
theorem rs_ok {r : Rs} (h : RsOk r) : okD r.d = true ∧ wtD r.d ≤ 60 ∧ r.d.depth ≤ 5 ∧ r.d.noref = true := by
  have hf := h.fm
  cases r with
  | task o => simp at hf; simp [Rs.d, okD, okDs, wtD, wtDs, D.depth, D.depths, D.noref, D.norefs, hf, plainC]
  | res n k => simp at hf; simp [Rs.d, okD, okDs, wtD, wtDs, D.depth, D.depths, D.noref, D.norefs, hf, plainC]
  | scope s ms =>
    simp at hf
    have h1 := okDs_ints ms h.sb
    have h2 : ms.length ≤ 10 := len10 (h.asc.imp fun h => by omega) h.sb
    simp [Rs.d, okD, okDs, wtD, wtDs, D.depth, D.depths, D.noref, D.norefs, hf, plainC, h1.1, h1.2, depths_row, norefs_row]
    omega
  | time o => simp at hf; simp [Rs.d, okD, okDs, wtD, wtDs, D.depth, D.depths, D.noref, D.norefs, hf, plainC]
  | send o => simp at hf; simp [Rs.d, okD, okDs, wtD, wtDs, D.depth, D.depths, D.noref, D.norefs, hf, plainC]
  | recv o => simp at hf; simp [Rs.d, okD, okDs, wtD, wtDs, D.depth, D.depths, D.noref, D.norefs, hf, plainC]
  | sel o => simp at hf; simp [Rs.d, okD, okDs, wtD, wtDs, D.depth, D.depths, D.noref, D.norefs, hf, plainC]
structure WOk (ws : List Wt) : Prop where
  tb : ∀ w ∈ ws, 0 ≤ w.1 ∧ w.1 < 10
  rs : ∀ w ∈ ws, RsOk w.2
theorem ws_ok : ∀ {ws : List Wt}, WOk ws → okDs (ws.map Wt.d) = true ∧ wtDs (ws.map Wt.d) ≤ 80 * ws.length ∧ D.depths (ws.map Wt.d) ≤ 10
  | [], _ => by simp [okDs, wtDs, D.depths]
  | w :: ws, h => by
    have ih := ws_ok (ws := ws) ⟨fun w hw => h.tb w (List.mem_cons_of_mem _ hw), fun w hw => h.rs w (List.mem_cons_of_mem _ hw)⟩
    have hr := rs_ok (h.rs w List.mem_cons_self)
    have ht := h.tb w List.mem_cons_self
    obtain ⟨a1, a2, a3, a4⟩ := hr
    simp only [List.map_cons, okDs, wtDs, D.depths, Wt.d, okD, wtD, D.depth, a1, ih.1, ht.1, ht.2, decide_true, Bool.and_self, true_and, List.length_cons]
    constructor
    · omega
    · have := ih.2.2
      simp only [Nat.max_def]
      repeat' split
      all_goals omega
theorem run_repr {d : D} {μ : Mem} {e : D} (hl : look μ d = e) (h1 : okD e = true) (h2 : wtD e ≤ 100000) (h3 : e.depth ≤ 60) : ∃ t, reprT e = some t ∧ blt .repr [d] μ = .ok (.str t) μ := by
  obtain ⟨t, a, b⟩ := repr_ok e h1
  refine ⟨t, a, ?_⟩
  have hle : t.length ≤ line := le_line (by omega)
  simp only [blt, bRepr, hl, a, hle, h3, and_self, if_true]
/-! ### the waits -/
abbrev lawB : Ss := sfor (sget f_law.body 0)
abbrev wtB : Ss := sfor (sget lawB 3)
theorem at_nat {α : Type} {xs : List α} {i : Nat} (h : i < xs.length) : at_ xs (i : Int) = some xs[i] := by
  unfold at_ place
  rw [if_pos (by omega), if_pos (by omega), Option.bind_some, Int.toNat_natCast, List.getElem?_eq_getElem h]
theorem wt_loop {n : Nat} {kd kw : Nat} {μ1 : Mem} {ds : List Int} (hd : μ1[kd]? = some (.lst (ds.map D.int))) (hdl : ds.length = 10) (hdb : ∀ x ∈ ds, 0 ≤ x ∧ x < 27720) (hne : kd ≠ kw) {K : Ks} {a0 a1 a2 a6 a7 a8 a9 a10 : Option D} : ∀ (m j : Nat), j + m ≤ 10 → ∀ (ws : List Wt) (μ : Mem) (a5 : Option D), μ[kw]? = some (.lst (ws.map Wt.d)) → KeepX (· = kw) μ1 μ →
    WOk ws → (ws.map (·.1)).Nodup → (∀ w ∈ ws, w.1 < j) → ws.length ≤ 8 →
    (∀ ws μ' a5, μ'[kw]? = some (.lst (ws.map Wt.d)) → KeepX (· = kw) μ1 μ' → WOk ws → (ws.map (·.1)).Nodup → ws.length ≤ 8 → K.nx [a0, a1, a2, some (.ref kd), some (.ref kw), a5, a6, a7, a8, a9, a10] μ') →
    (forL (fun _ => true) (stepF (Cc (n + 1) "law") (.name 5) wtB) ((List.range' j m).map fun (i : Nat) => D.int (i : Int)) [a0, a1, a2, some (.ref kd), some (.ref kw), a5, a6, a7, a8, a9, a10] μ).wp K
  | 0, j, hj, ws, μ, a5, h, hk, wo, nd, hb, hl, q => by
    rw [List.range'_zero, List.map_nil, wf_nil rfl]
    exact q ws μ a5 h hk wo nd hl
  | m + 1, j, hj, ws, μ, a5, h, hk, wo, nd, hb, hl, q => by
    rw [List.range'_succ, List.map_cons, wf_cons rfl, w_stepF]
    have hdμ := hk.at_ _ _ hne hd
    have hjl : j < (ds.map D.int).length := by rw [List.length_map, hdl]; omega
    have hjl' : j < ds.length := by omega
    have hat : at_ (ds.map D.int) (j : Int) = some (.int ds[j]) := by rw [at_nat hjl, List.getElem_map]
    simp [bindT, wtB, lawB, f_law, sget, sfor]
    rw [ws_cons]
    have hskip : (forL (fun _ => true) (stepF (Cc (n + 1) "law") (.name 5) wtB) ((List.range' (j + 1) m).map fun (i : Nat) => D.int (i : Int)) [a0, a1, a2, some (.ref kd), some (.ref kw), some (.int j), a6, a7, a8, a9, a10] μ).wp K := wt_loop hd hdl hdb hne m (j + 1) (by omega) ws μ _ h hk wo nd (fun w hw => by have := hb w hw; omega) hl q
    by_cases c1 : 0 < ds[j] / 5040 % 5
    · by_cases c2 : (ws.length : Int) < 8
      · simp [item, itemL, hdμ, hat, bin_fdiv, bin_mod, c1, blt, bLen, h, c2]
        rw [ws_cons]
        simp [recv_app h, item, itemL, hdμ, hat]
        refine wp_mono (run_wait n ds[j] j μ (hdb _ (List.getElem_mem _)).1 (hdb _ (List.getElem_mem _)).2) (fun d μ' ⟨k2, r, hr, ro⟩ => ?_) fun c μ' h => h.elim
        subst hr
        have hfr : P.fr "law" = true := P_fr (by decide)
        have hrf : frz1 r.d μ' = (r.d, μ') := by cases r <;> rfl
        have h' := k2 _ _ h
        have hal : (ws.map Wt.d).length < line := by rw [List.length_map]; exact lt_line (by omega)
        simp [le_line, frzIf, hfr, frz, hrf, bm_app h' hal, D.cold]
        refine wt_loop hd hdl hdb hne m (j + 1) (by omega) (ws ++ [((j : Int), r)]) _ _ ?_ ((hk.trans k2.x).trans (KeepX.set rfl)) ⟨fun w hw => ?_, fun w hw => ?_⟩ ?_ (fun w hw => ?_) (by simp; omega) q
        · rw [get_set h']; simp [Wt.d]
        · rcases List.mem_append.mp hw with hw | hw
          · exact wo.tb w hw
          · simp at hw; subst hw; exact ⟨by simp, by simp; omega⟩
        · rcases List.mem_append.mp hw with hw | hw
          · exact wo.rs w hw
          · simp at hw; subst hw; exact ro
        · rw [List.map_append, List.nodup_append]
          refine ⟨nd, by simp, fun x hx y hy e => ?_⟩
          simp at hy
          subst hy
          subst e
          obtain ⟨w, hw, e⟩ := List.mem_map.mp hx
          have := hb w hw
          omega
        · rcases List.mem_append.mp hw with hw | hw
          · have := hb w hw; omega
          · simp at hw; subst hw; simp; omega
      · simp [item, itemL, hdμ, hat, bin_fdiv, bin_mod, c1, blt, bLen, h, c2]
        exact hskip
    · simp [item, itemL, hdμ, hat, bin_fdiv, bin_mod, c1]
      exact hskip
theorem WsOk.of {ws : List Wt} (h : WOk ws) (nd : (ws.map (·.1)).Nodup) (hl : ws.length ≤ 8) : WsOk ws := ⟨nd, h.tb, hl, fun w hw => (h.rs w hw).asc, fun w hw => (h.rs w hw).sb⟩
end Pl
set_option Elab.async false
set_option linter.all false
set_option maxRecDepth 100000
set_option maxHeartbeats 2000000
namespace Pl
open G C65
theorem text_ne (t : Tx) (μ : Mem) : cmpD .ne (.str t) (.str t) μ = some false := by rw [cmp_neS]; simp
theorem path_small {ws : List Wt} (ok : WsOk ws) {p : List Int} (h : lawC ws = some p) : (∀ x ∈ p, 0 ≤ x ∧ x < 10) ∧ p.length ≤ 10 := by
  unfold lawC at h
  obtain ⟨l1, t, l2, e1, e2, _⟩ := List.findSome?_eq_some_iff.mp h
  have ht : t ∈ keys ws := by rw [e1]; simp
  obtain ⟨w, hw, rfl⟩ := keys_mem ht
  obtain ⟨k1, j, k2, e3, e4, _⟩ := List.findSome?_eq_some_iff.mp e2
  have hm := List.mem_of_find?_eq_some e4
  have hb : ∀ x ∈ p, 0 ≤ x ∧ x < 10 := fun x hx => by
    have := keyT_mem (W_key (key_of hw) _ _ hm x hx)
    obtain ⟨w', hw', rfl⟩ := List.mem_map.mp this
    exact ok.tb w' hw'
  exact ⟨hb, len10 (W_nd _ _ hm) hb⟩
theorem eqv_row (p : List Int) : (D.lst (p.map D.int)).eqv (.lst (p.map D.int)) = true := by
  simp only [D.eqv]
  induction p with
  | nil => simp [D.eqvs]
  | cons x p ih => simp [D.eqvs, D.eqv, ih]
theorem eq_path {ws : List Wt} {μ0 μ : Mem} {d : D} {r : Option (List Int)} (h : PathD μ0 μ d r) (hn : r ≠ none) : cmpD .ne d (match r with
      | none => .non
      | some p => rowD p) μ = some false := by
  cases r with
  | none => exact absurd rfl hn
  | some p =>
    obtain ⟨k, rfl, _, hp⟩ := h
    simp only [cmpD, eqD, dictOf, hp, eqSeq, look, rowD, D.noref, norefs_row, D.depth, depths_row, eqv_row]
    rfl
/-- behind the waits -/
theorem law_rest {n : Nat} {ws : List Wt} (wo : WOk ws) (nd : (ws.map (·.1)).Nodup) (hl : ws.length ≤ 8) {kw : Nat} {μ : Mem} (h : μ[kw]? = some (.lst (ws.map Wt.d))) {a0 a1 a2 a3 a5 a6 a7 a8 a9 a10 : Option D} {K : Ks}
    (q : ∀ a6 a7 a8 a9 μ, K.nx [a0, a1, a2, a3, some (.ref kw), a5, a6, a7, a8, a9, a10] μ) :
    (execs (Cc (n + 2) "law") (.cons (sget lawB 5) (.cons (sget lawB 6) (.cons (sget lawB 7) (.cons (sget lawB 8) (.cons (sget lawB 9) .nil))))) [a0, a1, a2, a3, some (.ref kw), a5, a6, a7, a8, a9, a10] μ).wp K := by
  have ok := WsOk.of wo nd hl
  obtain ⟨o1, o2, o3⟩ := ws_ok wo
  have hrep : ∀ {μ : Mem}, μ[kw]? = some (.lst (ws.map Wt.d)) → ∃ t, reprT (.lst (ws.map Wt.d)) = some t ∧ blt .repr [.ref kw] μ = .ok (.str t) μ := fun {μ} h => run_repr (by simp only [look, h]) (by simp only [okD, o1]) (by simp only [wtD]; omega) (by simp only [D.depth]; omega)
  obtain ⟨t0, e0, r0⟩ := hrep h
  simp only [sget, sfor, lawB, f_law]
  rw [ws_cons]
  simp [r0]
  rw [ws_cons]
  simp
  refine wp_mono (run_first n ok h) (fun d μ1 ⟨k1, hd⟩ => ?_) fun c μ' h => h.elim
  rw [ws_cons]
  simp
  have h1 := k1 _ _ h
  refine wp_mono (run_lcircle n ok h1) (fun d2 μ2 ⟨k2, hd2⟩ => ?_) fun c μ' h => h.elim
  have h2 := k2 _ _ h1
  obtain ⟨t1, e1, r1⟩ := hrep h2
  rw [e0] at e1
  cases e1
  rw [first_law ok] at hd
  have hrd : ∃ t, blt .repr [d] μ2 = .ok (.str t) μ2 ∧ blt .repr [d2] μ2 = .ok (.str t) μ2 := by
    cases hc : lawC ws with
    | none =>
      rw [hc] at hd hd2
      have hd : d = .non := hd
      simp only at hd2
      subst hd hd2
      obtain ⟨t, _, e⟩ := run_repr (d := .non) (μ := μ2) (e := .non) rfl rfl (by simp [wtD]) (by simp [D.depth])
      exact ⟨t, e, e⟩
    | some p =>
      rw [hc] at hd hd2
      obtain ⟨k, rfl, _, hp⟩ := hd
      simp only at hd2
      subst hd2
      obtain ⟨hb, hpl⟩ := path_small ok hc
      obtain ⟨w1, w2⟩ := okDs_ints p hb
      obtain ⟨t, e1, e2⟩ := run_repr (d := .ref k) (μ := μ2) (e := .lst (p.map D.int)) (by simp only [look, k2 _ _ hp]) (by simp only [okD, w1]) (by simp only [wtD, w2]; omega) (by simp only [D.depth, depths_row]; omega)
      obtain ⟨t', e3, e4⟩ := run_repr (d := rowD p) (μ := μ2) (e := .lst (p.map D.int)) rfl (by simp only [okD, w1]) (by simp only [wtD, w2]; omega) (by simp only [D.depth, depths_row]; omega)
      rw [e1] at e3
      cases e3
      exact ⟨t, e2, e4⟩
  obtain ⟨t, q1, q2⟩ := hrd
  rw [ws_cons]
  simp [r1, q1, q2]
  rw [ws_cons]
  cases hc : lawC ws with
  | none =>
    rw [hc] at hd hd2
    have hd : d = .non := hd
    subst hd
    simp
    exact q _ _ _ _ _
  | some p =>
    rw [hc] at hd hd2
    obtain ⟨k, rfl, hk0, hp⟩ := hd
    simp only at hd2
    subst hd2
    have hp2 := k2 _ _ hp
    obtain ⟨hb, hpl⟩ := path_small ok hc
    simp
    rw [ws_cons]
    simp [isTys, isTy, hp2]
    rw [ws_cons]
    simp
    refine wp_mono (run_first n ok h2) (fun d3 μ3 ⟨k3, hd3⟩ => ?_) fun c μ' h => h.elim
    rw [first_law ok, hc] at hd3
    obtain ⟨kk, rfl, hkk, hp3⟩ := hd3
    have hp2' := k3 _ _ hp2
    have hpL : (p.map D.int).length < line := by rw [List.length_map]; exact lt_line (by omega)
    rw [ws_cons]
    simp [recv_app hp2', bm_app hp2' hpL, D.cold]
    have hne : k ≠ kk := by have := get_lt hp2; omega
    have hkw : k ≠ kw := by have := get_lt h; omega
    have hp4 : (μ3.set k (.lst (p.map D.int ++ [.int 11])))[kk]? = some (.lst (p.map D.int)) := by rw [List.getElem?_set_ne hne]; exact hp3
    have hw4 : (μ3.set k (.lst (p.map D.int ++ [.int 11])))[kw]? = some (.lst (ws.map Wt.d)) := by rw [List.getElem?_set_ne hkw]; exact k3 _ _ h2
    have e1 := eq_path (ws := ws) (r := some p) (μ0 := []) ⟨kk, rfl, Nat.zero_le _, hp4⟩ (by simp)
    simp only at e1
    rw [ws_cons]
    simp [e1]
    refine wp_mono (run_first n ok hw4) (fun d5 μ5 ⟨k5, hd5⟩ => ?_) fun c μ' h => h.elim
    rw [first_law ok, hc] at hd5
    have e2 := eq_path (ws := ws) hd5 (by simp)
    simp only at e2
    simp [e2]
    exact q _ _ _ _ _
end Pl
set_option Elab.async false
set_option linter.all false
set_option maxRecDepth 100000
set_option maxHeartbeats 2000000
namespace Pl
open G C65
theorem cut8 {ds : List D} : cut ds none (some 8) = ds.take 8 := by
  unfold cut bound
  simp
theorem law_turn {n : Nat} {ns : List Int} {k : Nat} (hk : k ≤ 1000) {μ : Mem} {a2 a3 a4 a5 a6 a7 a8 a9 a10 : Option D} {K : Ks}
    (q : ∀ a1 a2 a3 a4 a5 a6 a7 a8 a9 a10 μ, K.nx [some (scriptD ns), a1, a2, a3, a4, a5, a6, a7, a8, a9, a10] μ) :
    (execs (Cc (n + 2) "law") lawB [some (scriptD ns), some (.int k), a2, a3, a4, a5, a6, a7, a8, a9, a10] μ).wp K := by
  obtain ⟨c, hc0, hc⟩ := run_cell (n + 1) ns k μ
  have hfr : P.fr "law" = true := P_fr (by decide)
  have hb : lawB = .cons (sget lawB 0) (.cons (sget lawB 1) (.cons (sget lawB 2) (.cons (sget lawB 3) (.cons (sget lawB 4) (.cons (sget lawB 5) (.cons (sget lawB 6) (.cons (sget lawB 7) (.cons (sget lawB 8) (.cons (sget lawB 9) .nil))))))))) := rfl
  rw [hb, ws_cons]
  have s0 : sget lawB 0 = .asg (.name 2) (.bin .add (.call "_law_cell" (.cons (.var 0) (.cons (.var 1) .nil))) (.var 1)) := rfl
  rw [s0]
  simp [hc]
  rw [ws_cons]
  have s1 : sget lawB 1 = .asg (.name 3) (.call "_law_digits" (.cons (.bin .fdiv (.var 2) (.lit (.int 3))) (.cons (.lit (.int 27720)) (.cons (.lit (.int 10)) .nil)))) := rfl
  rw [s1]
  simp [bin_fdiv]
  refine wp_mono (run_digits (n + 1) ((c + k) / 3) μ) (fun d μ1 ⟨k1, kd, ds, hd, hds, hdl, hdb⟩ => ?_) fun c μ' h => h.elim
  subst hd
  rw [ws_cons]
  have s2 : sget lawB 2 = .asg (.name 4) (.lst .nil) := rfl
  rw [s2]
  simp [frzIf, hfr, frz, newL]
  rw [ws_cons]
  have s3 : sget lawB 3 = .for (.name 5) (.range (.cons (.lit (.int 10)) .nil)) wtB := rfl
  have hw : walkRange [.int 10] = some ⟨(List.range' 0 10).map fun (i : Nat) => D.int (i : Int), fun _ => true⟩ := by rfl
  rw [s3]
  simp only [w_for, wi_range, wes_cons, wes_nil, we_lit, opt_some, hw]
  refine wt_loop (n := n + 1) (μ1 := μ1 ++ [Cell.lst []]) (Keep.app _ _ _ _ hds) hdl hdb (by have := get_lt hds; omega) 10 0 (by decide) [] _ a5 (get_new _ _) (KeepX.refl _ _) ⟨by simp, by simp⟩ (by simp) (by simp) (by simp) fun ws μ2 a5 h2 hx wo nd hl => ?_
  dsimp only
  rw [ws_cons]
  have s4 : sget lawB 4 = .ite (.cmp .eq (.bin .mod (.var 2) (.lit (.int 4))) (.lit (.int 0))) (.cons (.asg (.name 4) (.slc (.lc (.name 5) (.range (.cons (.lit (.int 10)) .nil)) (.tup (.cons (.var 5) (.cons (.tup (.cons (.lit (.str ['t', 'a', 's', 'k'])) (.cons (.bin .mod (.blt .int (.cons (.bin .add (.bin .mul (.var 5) (.lit (.int 3))) (.var 2)) .nil)) (.lit (.int 10))) .nil))) .nil))) .nil [10, 5]) .none (.some (.lit (.int 8))))) .nil) .nil := rfl
  rw [s4]
  simp only [w_ite, we_cmp, we_bin, we_var, we_lit, List.getElem?_cons_succ, List.getElem?_cons_zero, opt_some, bin_mod (show (0 : Int) < 4 by decide), wp_ok, cmp_eqI, truth_bl, tst_some]
  refine bft_dec (fun h4 => ?_) fun h4 => ?_
  · rw [ws_cons]
    have hel : ∀ i ∈ List.range 10, elF (Cc (n + 2) "law") (.name 5) .nil (.tup (.cons (.var 5) (.cons (.tup (.cons (.lit (.str ['t', 'a', 's', 'k'])) (.cons (.bin .mod (.blt .int (.cons (.bin .add (.bin .mul (.var 5) (.lit (.int 3))) (.var 2)) .nil)) (.lit (.int 10))) .nil))) .nil))) (wipeE [some (scriptD ns), some (.int k), some (.int (c + k)), some (.ref kd), some (.ref μ1.length), a5, a6, a7, a8, a9, a10] [10, 5]) (D.int ((i : Nat) : Int)) μ2 = .ok (some (Wt.d ((i : Int), Rs.task (((i : Int) * 3 + (c + k)) % 10)))) μ2 := fun i hi => by
      have s1 : small 3 = true := by decide
      have hwp : (elF (Cc (n + 2) "law") (.name 5) .nil (.tup (.cons (.var 5) (.cons (.tup (.cons (.lit (.str ['t', 'a', 's', 'k'])) (.cons (.bin .mod (.blt .int (.cons (.bin .add (.bin .mul (.var 5) (.lit (.int 3))) (.var 2)) .nil)) (.lit (.int 10))) .nil))) .nil))) (wipeE [some (scriptD ns), some (.int k), some (.int (c + k)), some (.ref kd), some (.ref μ1.length), a5, a6, a7, a8, a9, a10] [10, 5]) (D.int ((i : Nat) : Int)) μ2).wp (fun r μ'' => μ'' = μ2 ∧ r = some (Wt.d ((i : Int), Rs.task (((i : Int) * 3 + (c + k)) % 10)))) fun _ _ => False := by
        rw [w_elF]
        simp [bindT, wipeE, bin_mulL, mulOk, s1, bin_mod, blt, bInt, frzIf, hfr, frz, le_line, Wt.d, Rs.d]
      obtain ⟨a, μ'', e, rfl, rfl⟩ := wp_get hwp
      exact e
    have hlc := wp_lcP (keep := fun _ => true) (el := elF (Cc (n + 2) "law") (.name 5) .nil (.tup (.cons (.var 5) (.cons (.tup (.cons (.lit (.str ['t', 'a', 's', 'k'])) (.cons (.bin .mod (.blt .int (.cons (.bin .add (.bin .mul (.var 5) (.lit (.int 3))) (.var 2)) .nil)) (.lit (.int 10))) .nil))) .nil))) (wipeE [some (scriptD ns), some (.int k), some (.int (c + k)), some (.ref kd), some (.ref μ1.length), a5, a6, a7, a8, a9, a10] [10, 5])) (fr := P.fr "law") (μ := μ2) (fun d => match d with
      | .int i => some (Wt.d (i, Rs.task ((i * 3 + (c + k)) % 10)))
      | _ => none) rfl (ds := (List.range 10).map fun (i : Nat) => D.int (i : Int)) (acc := []) (fun d hd => ?_) (fun d hd y hy => ?_) (le_line (by decide))
    rotate_left
    · obtain ⟨i, hi, rfl⟩ := List.mem_map.mp hd
      exact hel i hi
    · obtain ⟨i, hi, rfl⟩ := List.mem_map.mp hd
      simp only at hy
      cases hy
      rfl
    let ws2 : List Wt := (List.range 10).map fun (i : Nat) => ((i : Int), Rs.task (((i : Int) * 3 + (c + k)) % 10))
    have hfm : ((List.range 10).map fun (i : Nat) => D.int (i : Int)).filterMap (fun d => match d with
      | .int i => some (Wt.d (i, Rs.task ((i * 3 + (c + k)) % 10)))
      | _ => none) = ws2.map Wt.d := rfl
    rw [hfm, List.nil_append] at hlc
    have hw2 : walkRange [.int 10] = some ⟨(List.range 10).map fun (i : Nat) => D.int (i : Int), fun _ => true⟩ := by rfl
    simp only [w_asg, we_slc, we_lc, wi_range, wes_cons, wes_nil, we_lit, hw2, opt_some, hlc, wp_ok]
    have hnew : (μ2 ++ [Cell.lst (ws2.map Wt.d)])[μ2.length]? = some (.lst (ws2.map Wt.d)) := get_new _ _
    simp [newL, optInt, slice, cut8]
    refine law_rest (ws := ws2.take 8) ⟨fun w hw => ?_, fun w hw => ?_⟩ ?_ ?_ (kw := μ2.length + 1) (by simp) fun a6 a7 a8 a9 μ => q _ _ _ _ _ _ _ _ _ _ _
    · obtain ⟨i, hi, rfl⟩ := List.mem_map.mp (List.mem_of_mem_take hw)
      have := List.mem_range.mp hi
      exact ⟨by simp, by simp; omega⟩
    · obtain ⟨i, hi, rfl⟩ := List.mem_map.mp (List.mem_of_mem_take hw)
      have h1 := Int.emod_nonneg ((i : Int) * 3 + (c + k)) (b := 10) (by decide)
      have h2 := Int.emod_lt_of_pos ((i : Int) * 3 + (c + k)) (b := 10) (by decide)
      exact ⟨by simp [Rs.succ], by simp [Rs.succ]; exact ⟨h1, h2⟩, ⟨h1, h2⟩⟩
    · rw [List.map_take, List.map_map]
      refine List.Nodup.sublist (List.take_sublist _ _) ?_
      show List.Nodup ((List.range 10).map fun (i : Nat) => (i : Int))
      decide
    · simp [ws2]
  · rw [ws_nil]
    exact law_rest wo nd hl h2 fun a6 a7 a8 a9 μ => q _ _ _ _ _ _ _ _ _ _ _
theorem law_true (n : Nat) (ns : List Int) (hn : ns.length ≤ 63) : ∃ μ, run P (n + 3) "law" [scriptD ns] [] = .ok (.bl true) μ := by
  have hwp : (run P (n + 3) "law" [scriptD ns] []).wp (fun d _ => d = .bl true) fun _ _ => False := by
    refine wp_run (F := f_law) rfl rfl ?_
    show (execs (Cc (n + 2) "law") f_law.body [some (scriptD ns), none, none, none, none, none, none, none, none, none, none] []).wp _
    have hfr : P.fr "law" = true := P_fr (by decide)
    have hb : f_law.body = .cons (sget f_law.body 0) (.cons (sget f_law.body 1) .nil) := rfl
    rw [hb, ws_cons]
    have s0 : sget f_law.body 0 = .for (.name 1) (.range (.cons (.blt .min (.cons (.bin .add (.lit (.int 1)) (.blt .len (.cons (.var 0) .nil))) (.cons (.lit (.int 8)) .nil))) .nil)) lawB := rfl
    rw [s0]
    have hmin : ∃ m : Nat, m ≤ 8 ∧ blt .min [.int (1 + (ns.length : Int)), .int 8] [] = .ok (.int m) [] := by
      by_cases h : (8 : Int) < 1 + (ns.length : Int)
      · exact ⟨8, Nat.le_refl _, by simp only [blt, ints2, h, if_true]; rfl⟩
      · exact ⟨1 + ns.length, by omega, by simp only [blt, ints2, h, if_false]; congr 1⟩
    obtain ⟨m, hm, em⟩ := hmin
    have hlen : blt .len [scriptD ns] [] = .ok (.int ns.length) [] := by simp only [blt, bLen, scriptD, List.length_map]
    have hf62 : fits62 (m : Int) = true := fits62_le (by omega) (by omega)
    have hw : walkRange [.int (m : Int)] = some ⟨rangeL 0 m, fun _ => true⟩ := by simp only [walkRange, hf62, if_true]
    simp only [w_for, wi_range, wes_cons, wes_nil, we_blt, we_bin, we_var, we_lit, List.getElem?_cons_succ, List.getElem?_cons_zero, opt_some, hlen, wp_ok, bin_addI, em, hw]
    rw [range_len]
    refine wp_forL (fun ds ρ μ => (∃ a1 a2 a3 a4 a5 a6 a7 a8 a9 a10, ρ = [some (scriptD ns), a1, a2, a3, a4, a5, a6, a7, a8, a9, a10]) ∧ ∀ d ∈ ds, ∃ k : Nat, d = .int k ∧ k ≤ 1000) (fun _ _ _ _ => rfl) (fun d ds ρ μ ⟨⟨a1, a2, a3, a4, a5, a6, a7, a8, a9, a10, hρ⟩, hd⟩ => ?_) (fun ρ μ ⟨⟨a1, a2, a3, a4, a5, a6, a7, a8, a9, a10, hρ⟩, _⟩ => ?_) ⟨⟨_, _, _, _, _, _, _, _, _, _, rfl⟩, fun d hd => ?_⟩
    · obtain ⟨k, rfl, hk⟩ := hd d List.mem_cons_self
      subst hρ
      rw [w_stepF]
      simp only [bindT, opt_some, List.set_cons_succ, List.set_cons_zero]
      exact law_turn hk fun a1 a2 a3 a4 a5 a6 a7 a8 a9 a10 μ => ⟨⟨_, _, _, _, _, _, _, _, _, _, rfl⟩, fun d hd' => hd d (List.mem_cons_of_mem _ hd')⟩
    · subst hρ
      dsimp only
      have s1 : sget f_law.body 1 = .ret (.cmp .isnone (.call "first_circle" (.cons (.lst .nil) .nil)) (.lit .non)) := rfl
      rw [s1, ws_cons]
      simp [frzIf, hfr, frz, newL]
      refine wp_mono (run_first n (ws := []) ⟨by simp, by simp, by simp, by simp, by simp⟩ (μ0 := μ ++ [Cell.lst []]) (kw := μ.length) (get_new _ _)) (fun d μ1 ⟨k1, hd⟩ => ?_) fun c μ' h => h.elim
      have : firstC [] = none := by simp [firstC, keys]
      rw [this] at hd
      have hd : d = .non := hd
      subst hd
      simp
    · obtain ⟨i, hi, rfl⟩ := List.mem_map.mp hd
      exact ⟨i, rfl, by have := List.mem_range.mp hi; omega⟩
  obtain ⟨d, μ, e, rfl⟩ := wp_get hwp
  exact ⟨μ, e⟩
end Pl
set_option maxHeartbeats 0
namespace Law
open PySem PySem.Spec PyProof.Rows L2 G Pl
/-! ### the text's defs -/
def top (i : Nat) : Stmt := PySem.Challenge.pw_seedbed_k65_circles_of_waits.main.body.getD i (.Pass ⟨0, 0, 0, 0⟩)
def dd (i : Nat) (x : PySem.Str) : He.DefD := ⟨(x, none), x, x, defArgs (top i), defBody (top i), defScope (top i), [], []⟩
def g_followers : GD := ⟨dd 1 "followers", "followers", ["reason"], ["reason"]⟩
def g_circle_from : GD := ⟨dd 2 "circle_from", "circle_from", ["table", "first", "paths", "seen", "longer", "path", "follower"], ["table", "first"]⟩
def g_first_circle : GD := ⟨dd 3 "first_circle", "first_circle", ["waits", "table", "task", "reason", "circle"], ["waits"]⟩
def g__law_cell : GD := ⟨dd 5 "_law_cell", "_law_cell", ["_law_script", "_law_k"], ["_law_script", "_law_k"]⟩
def g__law_digits : GD := ⟨dd 6 "_law_digits", "_law_digits", ["_law_cell_here", "_law_base", "_law_most", "_law_digits_here", "_law_large", "_law_k"], ["_law_cell_here", "_law_base", "_law_most"]⟩
def g__law_wait : GD := ⟨dd 7 "_law_wait", "_law_wait", ["_law_draw", "_law_tasks", "_law_way", "_law_other", "_law_members", ".0", "_law_k"], ["_law_draw", "_law_tasks"]⟩
def g__law_next : GD := ⟨dd 8 "_law_next", "_law_next", ["_law_reason"], ["_law_reason"]⟩
def g__law_ways : GD := ⟨dd 9 "_law_ways", "_law_ways", ["_law_edges", "_law_first", "_law_length", "_law_ways_here", "_law_turn", "_law_longer", "_law_way", "_law_other"], ["_law_edges", "_law_first", "_law_length"]⟩
def g__law_circle : GD := ⟨dd 10 "_law_circle", "_law_circle", ["_law_waits", "_law_edges", "_law_task", "_law_reason", "_law_first", "_law_length", "_law_found", ".0", "_law_way"], ["_law_waits"]⟩
def g_law : GD := ⟨dd 11 "law", "law", ["_law_script", "_law_k", "_law_cell_here", "_law_draws", "_law_waits", "_law_task", "_law_kept", "_law_told", "_law_due", "_law_again", ".0"], ["_law_script"]⟩
def gs : List GD := [g_followers, g_circle_from, g_first_circle, g__law_cell, g__law_digits, g__law_wait, g__law_next, g__law_ways, g__law_circle, g_law]
def ks : List Kon := []
theorem ok_followers : g_followers.Ok (tabOf gs ks) P := ⟨⟨rfl, rfl, rfl, by decide +kernel, rfl, by decide +kernel, by decide +kernel⟩, ⟨f_followers, by kernel_rfl, by simp [P, fns, g_followers]⟩, fun _ _ _ _ _ _ us hl => match us, hl with | [_], _ => rfl⟩
theorem ok_circle_from : g_circle_from.Ok (tabOf gs ks) P := ⟨⟨rfl, rfl, rfl, by decide +kernel, rfl, by decide +kernel, by decide +kernel⟩, ⟨f_circle_from, by kernel_rfl, by simp [P, fns, g_circle_from]⟩, fun _ _ _ _ _ _ us hl => match us, hl with | [_, _], _ => rfl⟩
theorem ok_first_circle : g_first_circle.Ok (tabOf gs ks) P := ⟨⟨rfl, rfl, rfl, by decide +kernel, rfl, by decide +kernel, by decide +kernel⟩, ⟨f_first_circle, by kernel_rfl, by simp [P, fns, g_first_circle]⟩, fun _ _ _ _ _ _ us hl => match us, hl with | [_], _ => rfl⟩
theorem ok__law_cell : g__law_cell.Ok (tabOf gs ks) P := ⟨⟨rfl, rfl, rfl, by decide +kernel, rfl, by decide +kernel, by decide +kernel⟩, ⟨f__law_cell, by kernel_rfl, by simp [P, fns, g__law_cell]⟩, fun _ _ _ _ _ _ us hl => match us, hl with | [_, _], _ => rfl⟩
theorem ok__law_digits : g__law_digits.Ok (tabOf gs ks) P := ⟨⟨rfl, rfl, rfl, by decide +kernel, rfl, by decide +kernel, by decide +kernel⟩, ⟨f__law_digits, by kernel_rfl, by simp [P, fns, g__law_digits]⟩, fun _ _ _ _ _ _ us hl => match us, hl with | [_, _, _], _ => rfl⟩
theorem ok__law_wait : g__law_wait.Ok (tabOf gs ks) P := ⟨⟨rfl, rfl, rfl, by decide +kernel, rfl, by decide +kernel, by decide +kernel⟩, ⟨f__law_wait, by kernel_rfl, by simp [P, fns, g__law_wait]⟩, fun _ _ _ _ _ _ us hl => match us, hl with | [_, _], _ => rfl⟩
theorem ok__law_next : g__law_next.Ok (tabOf gs ks) P := ⟨⟨rfl, rfl, rfl, by decide +kernel, rfl, by decide +kernel, by decide +kernel⟩, ⟨f__law_next, by kernel_rfl, by simp [P, fns, g__law_next]⟩, fun _ _ _ _ _ _ us hl => match us, hl with | [_], _ => rfl⟩
theorem ok__law_ways : g__law_ways.Ok (tabOf gs ks) P := ⟨⟨rfl, rfl, rfl, by decide +kernel, rfl, by decide +kernel, by decide +kernel⟩, ⟨f__law_ways, by kernel_rfl, by simp [P, fns, g__law_ways]⟩, fun _ _ _ _ _ _ us hl => match us, hl with | [_, _, _], _ => rfl⟩
theorem ok__law_circle : g__law_circle.Ok (tabOf gs ks) P := ⟨⟨rfl, rfl, rfl, by decide +kernel, rfl, by decide +kernel, by decide +kernel⟩, ⟨f__law_circle, by kernel_rfl, by simp [P, fns, g__law_circle]⟩, fun _ _ _ _ _ _ us hl => match us, hl with | [_], _ => rfl⟩
theorem ok_law : g_law.Ok (tabOf gs ks) P := ⟨⟨rfl, rfl, rfl, by decide +kernel, rfl, by decide +kernel, by decide +kernel⟩, ⟨f_law, by kernel_rfl, by simp [P, fns, g_law]⟩, fun _ _ _ _ _ _ us hl => match us, hl with | [_], _ => rfl⟩
theorem ok_all : ∀ g ∈ gs, g.Ok (tabOf gs ks) P := fun g hg => by
  simp only [gs, List.mem_cons, List.not_mem_nil, or_false] at hg
  rcases hg with rfl | rfl | rfl | rfl | rfl | rfl | rfl | rfl | rfl | rfl
  · exact ok_followers
  · exact ok_circle_from
  · exact ok_first_circle
  · exact ok__law_cell
  · exact ok__law_digits
  · exact ok__law_wait
  · exact ok__law_next
  · exact ok__law_ways
  · exact ok__law_circle
  · exact ok_law
theorem at_all : ∀ g ∈ gs, g.d.at_ = (g.d.name, none) ∧ g.d.dfl = [] ∧ g.d.kwd = [] := fun g hg => by
  simp only [gs, List.mem_cons, List.not_mem_nil, or_false] at hg
  rcases hg with rfl | rfl | rfl | rfl | rfl | rfl | rfl | rfl | rfl | rfl <;> exact ⟨rfl, rfl, rfl⟩
theorem short_all : ∀ x t, Kon.str x t ∈ ks → t.length ≤ line := fun x t h => by
  simp only [ks, List.mem_cons, List.not_mem_nil, or_false, Kon.str.injEq, reduceCtorEq, false_or] at h
/-! ### the head -/
abbrev R : PySem.W.OpenRow := PySem.W.OpenLaw.row PySem.Challenge.rw_seedbed_k65_circles_of_waits
abbrev hk : PySem.W.Hook := He.hookD 4 (faOf gs ks) (gs.map GD.d)
def ob (s : PySem.W.SharedT) : He.AlD := He.obsDG 4 (faOf gs ks) (gs.map GD.d) (HandSHeadRun.getT s)
theorem ob_eq (s : PySem.W.SharedT) : ob s = hk.obs s.abs := He.obsDG_eq (HandSHeadRun.getT_eq s)
def loose : List PySem.Str := (["followers", "circle_from", "first_circle", "_law_cell", "_law_digits", "_law_wait", "_law_next", "_law_ways", "_law_circle"] : List PySem.Str)
theorem run_eq (w : World) : HandSHeadRun.RunEq R (PySem.W.view R.prog [11]) hk ob 4000 loose w := by
  intro os
  kernel_rfl
end Law
namespace Law
theorem runs : G.Runs Pl.P 200 "law" 63 := fun ns h _ => Pl.law_true 197 ns h
end Law
open PySem PySem.W PySem.Calls PyProof.Rows
theorem PySem.Challenge.cw_seedbed_k65_circles_of_waits_holds : PySem.Challenge.rw_seedbed_k65_circles_of_waits.Holds := by
  w_on; o_law
  refine HandSHeadRun.head_any (r := OpenLaw.row PySem.Challenge.rw_seedbed_k65_circles_of_waits) (q := view (OpenLaw.row PySem.Challenge.rw_seedbed_k65_circles_of_waits).prog [11]) (H := Law.hk) (ob := Law.ob) (M := 4000) (loose := Law.loose) (d := HandSHeadRun.topDef (OpenLaw.row PySem.Challenge.rw_seedbed_k65_circles_of_waits).prog 11) (kwd := []) Law.ob_eq
    (by kernel_rfl) (fun s => by kernel_rfl) Law.run_eq (by kernel_rfl) (by kernel_rfl) (by kernel_rfl) (by rfl) (by first | assumption | decide +kernel) (by decide +kernel) ⟨rfl, rfl, rfl, rfl, rfl, by decide +kernel⟩ ?hw ?hc
  case hw => w_witness2
  case hc =>
    exact G.walk_G (l := PySem.Challenge.rw_seedbed_k65_circles_of_waits) (most := 63) (k := 200) (x := "_law_script") (gs := Law.gs) (ks := Law.ks) (P := Pl.P) (n := 4) (g := Law.g_law) rfl (by decide) (by kernel_rfl) ⟨⟨rfl, by decide, by decide⟩, rfl⟩ Law.ok_all Law.at_all Law.short_all (by simp [Law.gs]) (by kernel_rfl) rfl Law.runs
