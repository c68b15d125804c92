import PyProof.Rows.All
import HandS.ForMost
import HandS.Wide
import HandS.IsInst
import HandS.Style
import HandS.TupAny
import HandS.SortInts
import HandS.ForExc
import HandS.Codes
import HandS.StrMore
import HandS.More
import HandS.SetKeys
import HandS.ExcCtx
import HandS.Words
import HandS.WordsExc
import KE.GoesMore
import HandS.Text
import HandS.ExcIs
import HandS.HotCalls
import HandS.Hot
import KE.GoesComp
import PySem.Challenge.RW_primeslip_k09_texts_refused
set_option Elab.async false
set_option linter.all false
set_option maxRecDepth 100000
set_option maxHeartbeats 2000000
set_option autoImplicit false
/-! Lang: a small language of the claim's own over plain data (D), with a store of lists, dicts and instances (MS), and what a piece of it wants (wE, wA, wS). No word of the model stands here. -/
namespace Sl

inductive D where
  | non | bool (b : Bool) | int (i : Int) | str (s : List Nat) | tup (ds : List D) | lv (ds : List D) | ref (n : Nat)
  | exc (c a : Nat) | kl (ds : List D)

inductive MO where
  | lst (ds : List D) | dict (kvs : List (Int × D)) | ldict (kvs : List (Int × D)) | inst (c : Nat) (fs : List (Nat × D))

abbrev MS := List MO
/-- an error is told by a number of its class -/
abbrev Exn := Nat
abbrev VQ := D → MS → Prop
abbrev AQ := List D → MS → Prop
abbrev XQ := Exn → MS → Prop
abbrev Loc := List (Option D)

/-! ### numbers that are not too great -/
def Sm (i : Int) : Prop := i.natAbs < 2 ^ 8000
def lim : Nat := 1000000
theorem Sm.of_le {i j : Int} (h : Sm j) (h0 : 0 ≤ i) (h1 : i ≤ j) : Sm i := Nat.lt_of_le_of_lt (by omega) h
theorem Sm.of_nat {i : Int} (b : Nat) (h : i.natAbs < 2 ^ b) (hb : b ≤ 8000) : Sm i :=
  Nat.lt_of_lt_of_le h (Nat.pow_le_pow_right (by decide) hb)

/-! ### equality of data -/
mutual
def eqv : D → D → Bool
  | .non, .non => true
  | .bool a, .bool b => a == b
  | .bool a, .int j => (if a then 1 else 0) == j
  | .int i, .bool b => i == (if b then 1 else 0)
  | .int i, .int j => i == j
  | .str x, .str y => x == y
  | .tup xs, .tup ys => eqvs xs ys
  | .lv xs, .lv ys => eqvs xs ys
  | _, _ => false
def eqvs : List D → List D → Bool
  | [], [] => true
  | x :: xs, y :: ys => eqv x y && eqvs xs ys
  | [], _ :: _ => false
  | _ :: _, [] => false
end

/-! data with its lists told: f says what stands at a place -/
mutual
def resF (f : Nat → Option D) : D → Option D
  | .non => some .non
  | .bool b => some (.bool b)
  | .int i => some (.int i)
  | .str s => some (.str s)
  | .tup ds => match resFs f ds with
    | some es => some (.tup es)
    | none => none
  | .lv _ => none
  | .ref n => f n
  | .exc _ _ => none
  | .kl _ => none
def resFs (f : Nat → Option D) : List D → Option (List D)
  | [] => some []
  | d :: ds => match resF f d with
    | some e => match resFs f ds with
      | some es => some (e :: es)
      | none => none
    | none => none
end
def resN (M : MS) : Nat → Nat → Option D
  | 0, _ => none
  | k + 1, n => match M[n]? with
    | some (.lst ds) => match resFs (resN M k) ds with
      | some es => some (.lv es)
      | none => none
    | _ => none
def res (M : MS) (d : D) : Option D := resF (resN M 6) d

/-- data that == may look at: not too deep, its texts of signs -/
def okN : Nat → D → Bool
  | 0, _ => false
  | _ + 1, .non => true
  | _ + 1, .bool _ => true
  | _ + 1, .int _ => true
  | _ + 1, .str s => s.all fun c => decide (c < 1114112)
  | k + 1, .tup ds => ds.all (okN k)
  | k + 1, .lv ds => ds.all (okN k)
  | _ + 1, _ => false

def isSc : D → Bool
  | .non => true | .bool _ => true | .int _ => true | .str _ => true | _ => false

/-- what == wants -/
def wEq (x y : D) (M : MS) (Q : Bool → Prop) : Prop :=
  if isSc x = true ∧ isSc y = true then Q (eqv x y)
  else match res M x, res M y with
    | some r, some s => okN 60 r = true ∧ okN 60 s = true ∧ Q (eqv r s)
    | _, _ => False

/-- a test's two ways -/
def brn (d : D) (A B : Prop) : Prop := match d with
  | .bool true => A
  | .bool false => B
  | _ => False
theorem brn_bool {b : Bool} {A B : Prop} : brn (.bool b) A B = if b = true then A else B := by
  cases b
  · show B = _
    rw [if_neg Bool.false_ne_true]
  · show A = _
    rw [if_pos rfl]

/-! ### the words -/
inductive Op2 | add | sub | mul | fdiv | mod | pow
inductive Cmp | eq | ne | lt | le | gt | ge | isin | notin | is_ | isnot
inductive Ty | int | bool | str | tuple | list
inductive Bi | len | isi (t : Ty) | sorted | tuple | list | str | int | parse | min | max | all | any
inductive Mt | append | pop | dpop | insert | extend | clear | setdefault | split | join
inductive ItK | lst | tup | str | keys | range | rev | enumL | enumT | values | lkeys | lvals
inductive LT | name (i : Nat) | tup (is : List Nat)

mutual
inductive LE where
  | var (i : Nat) | con (d : D) | bin (o : Op2) (a b : LE) | cmp (o : Cmp) (a b : LE) | chain (o o' : Cmp) (a b c : LE)
  | and_ (a b : LE) | or_ (a b : LE) | not_ (a : LE)
  | tup (as : LA) | lst (as : LA) | dnew | dict1 (k v : LE)
  | idx (a b : LE) | slice (a : LE) (lo hi : LA) | revl (a : LE)
  | call (f : Nat) (as : LA) | bi (b : Bi) (as : LA) | meth (m : Mt) (o : LE) (as : LA)
  | umeth (m : Nat) (o : LE) (as : LA) | new (c : Nat) | fld (o : LE) (f : Nat)
  | comp (vs : List Nat) (k : ItK) (src : LA) (t : LT) (c e : LE)
  | compx (vs : List Nat) (k : ItK) (src : LA) (t : LT) (e : LE)
inductive LA where
  | nil | cons (a : LE) (r : LA)
end

inductive LS where
  | skip | seq (a b : LS)
  | asg (t : LT) (e : LE) | setIx (o i e : LE) | setFld (o : LE) (f : Nat) (e : LE)
  | expr (e : LE) | ret (e : LE) | retN
  | ife (c : LE) (a b : LS) | whl (c : LE) (b : LS) | fr (t : LT) (k : ItK) (src : LA) (b : LS)
  | raise (c : Exn)
  | tryx (b : LS) (cls : Nat) (v : Option Nat) (h : LS)

structure Fn where
  nargs : Nat
  nslots : Nat
  body : LS

/-! ### operators by values -/
def bin2 : Op2 → D → D → MS → VQ → Prop
  | .add, .int i, .int j, M, Q => Q (.int (i + j)) M
  | .add, .str s, .str t, M, Q => s.length + t.length ≤ lim ∧ Q (.str (s ++ t)) M
  | .add, .tup s, .tup t, M, Q => s.length + t.length ≤ lim ∧ Q (.tup (s ++ t)) M
  | .add, .ref a, .ref b, M, Q => match M[a]?, M[b]? with
    | some (.lst s), some (.lst t) => s.length + t.length ≤ lim ∧ Q (.ref M.length) (M ++ [.lst (s ++ t)])
    | _, _ => False
  | .sub, .int i, .int j, M, Q => Q (.int (i - j)) M
  | .mul, .int i, .int j, M, Q => Sm i ∧ Sm j ∧ Q (.int (i * j)) M
  | .mul, .str s, .int k, M, Q => 2 ≤ k ∧ k ≤ 10000 ∧ s ≠ [] ∧ s.length ≤ 100 ∧ Q (.str (List.replicate k.toNat s).flatten) M
  | .mul, .ref a, .int k, M, Q => match M[a]? with
    | some (.lst s) => 0 ≤ k ∧ k ≤ 1000 ∧ s.length ≤ 1000 ∧ Q (.ref M.length) (M ++ [.lst (List.replicate k.toNat s).flatten])
    | _ => False
  | .fdiv, .int i, .int j, M, Q => 0 < j ∧ Sm j ∧ Q (.int (i / j)) M
  | .mod, .int i, .int j, M, Q => 0 < j ∧ Q (.int (i % j)) M
  | .pow, .int i, .int j, M, Q => 0 ≤ j ∧ j ≤ 1000000 ∧ i.natAbs < 2 ^ 64 ∧ Q (.int (i ^ j.toNat)) M
  | _, _, _, _, _ => False

def dget (kvs : List (Int × D)) (k : Int) : Option D := (kvs.find? fun kv => decide (kv.1 = k)).map (·.2)
def dput (kvs : List (Int × D)) (k : Int) (v : D) : List (Int × D) :=
  if (kvs.any fun kv => decide (kv.1 = k)) = true then kvs.map (fun kv => if kv.1 = k then (kv.1, v) else kv) else kvs ++ [(k, v)]
def ddrop (kvs : List (Int × D)) (k : Int) : List (Int × D) := kvs.filter fun kv => decide (kv.1 ≠ k)

/-- the ints of a list that holds no others; the texts -/
def intsOf : List D → Option (List Int)
  | [] => some []
  | .int i :: r => (intsOf r).map (i :: ·)
  | _ :: _ => none
def strsOf : List D → Option (List (List Nat))
  | [] => some []
  | .str i :: r => (strsOf r).map (i :: ·)
  | _ :: _ => none
def boolsOf : List D → Option (List Bool)
  | [] => some []
  | .bool i :: r => (boolsOf r).map (i :: ·)
  | _ :: _ => none

/-- x in a list or tuple: numbers among numbers, texts among texts -/
def inSeq : D → List D → Option Bool
  | .int i, ds => (intsOf ds).map fun l => decide (i ∈ l)
  | .str s, ds => (strsOf ds).map fun l => decide (s ∈ l)
  | _, _ => none
/-- x in y -/
def inV (M : MS) : D → D → Option Bool
  | x, .tup ds => inSeq x ds
  | .str [c], .str z => some (decide (c ∈ z))
  | x, .ref n => match M[n]? with
    | some (.lst ds) => inSeq x ds
    | some (.dict kvs) => match x with
      | .int k => some (dget kvs k).isSome
      | _ => none
    | some (.ldict kvs) => match x with
      | .int k => some (dget kvs k).isSome
      | _ => none
    | _ => none
  | _, _ => none

def cmp2 : Cmp → D → D → MS → (Bool → Prop) → Prop
  | .eq, x, y, M, Q => wEq x y M Q
  | .ne, x, y, M, Q => wEq x y M fun b => Q (!b)
  | .lt, .int i, .int j, _, Q => Q (decide (i < j))
  | .le, .int i, .int j, _, Q => Q (decide (i ≤ j))
  | .gt, .int i, .int j, _, Q => Q (decide (j < i))
  | .ge, .int i, .int j, _, Q => Q (decide (j ≤ i))
  | .isin, x, y, M, Q => match inV M x y with
    | some b => Q b
    | none => False
  | .notin, x, y, M, Q => match inV M x y with
    | some b => Q (!b)
    | none => False
  | .is_, x, .non, _, Q => match x with
    | .non => Q true
    | .exc _ _ => False
    | _ => Q false
  | .is_, .bool a, .bool b, _, Q => Q (a == b)
  | .isnot, x, .non, _, Q => match x with
    | .non => Q false
    | .exc _ _ => False
    | _ => Q true
  | .isnot, .bool a, .bool b, _, Q => Q (!(a == b))
  | _, _, _, _, _ => False

/-! ### sequences -/
def ixN (n : Nat) (i : Int) : Option Nat := if 0 ≤ i then (if i < n then some i.toNat else none) else if -(n : Int) ≤ i then some (i + n).toNat else none
def atI {α : Type} (xs : List α) (i : Int) : Option α := (ixN xs.length i).bind fun j => xs[j]?
def idx2 (x y : D) (M : MS) (Q : VQ) : Prop :=
  match x, y with
  | .tup ds, .int i => match atI ds i with
    | some d => Q d M
    | none => False
  | .kl ds, .int i => match atI ds i with
    | some d => Q d M
    | none => False
  | .str s, .int i => s.length ≤ lim ∧ match atI s i with
    | some c => Q (.str [c]) M
    | none => False
  | .ref n, .int i => match M[n]? with
    | some (.lst ds) => match atI ds i with
      | some d => Q d M
      | none => False
    | some (.dict kvs) => match dget kvs i with
      | some d => Q d M
      | none => False
    | some (.ldict kvs) => match dget kvs i with
      | some d => Q d M
      | none => False
    | _ => False
  | _, _ => False

/-- the part of a slice: nothing, or a number that is not negative -/
def partOf : List D → Option (Option Nat)
  | [] => some none
  | [.int i] => if 0 ≤ i then some (some i.toNat) else none
  | _ => none
def cutL {α : Type} (xs : List α) (lo hi : Option Nat) : List α :=
  (xs.drop (lo.getD 0)).take ((hi.getD xs.length) - lo.getD 0)
def slice2 (x : D) (lo hi : List D) (M : MS) (Q : VQ) : Prop :=
  match partOf lo, partOf hi with
  | some l, some h => match x with
    | .tup ds => Q (.tup (cutL ds l h)) M
    | .kl ds => Q (.ref M.length) (M ++ [.lst (cutL ds l h)])
    | .str s => s.length ≤ lim ∧ Q (.str (cutL s l h)) M
    | .ref n => match M[n]? with
      | some (.lst ds) => Q (.ref M.length) (M ++ [.lst (cutL ds l h)])
      | _ => False
    | _ => False
  | _, _ => False
def revl2 (x : D) (M : MS) (Q : VQ) : Prop :=
  match x with
  | .ref n => match M[n]? with
    | some (.lst ds) => Q (.ref M.length) (M ++ [.lst ds.reverse])
    | _ => False
  | _ => False

/-! ### texts -/
/-- a number's figures -/
def figs : Nat → Nat → List Nat
  | 0, _ => []
  | k + 1, n => if n < 10 then [48 + n] else figs k (n / 10) ++ [48 + n % 10]
def itos (n : Int) : List Nat := if n < 0 then 45 :: figs (n.natAbs + 1) n.natAbs else figs (n.natAbs + 1) n.natAbs
/-- the number that figures write -/
def fromFigs (s : List Nat) : Nat := s.foldl (fun n c => 10 * n + (c - 48)) 0
def isFigs (s : List Nat) : Bool := s.all fun c => decide (48 ≤ c ∧ c ≤ 57)
/-- split by one sign -/
def splitC (c : Nat) : List Nat → List (List Nat)
  | [] => [[]]
  | x :: r => if x = c then [] :: splitC c r else match splitC c r with
    | p :: ps => (x :: p) :: ps
    | [] => [[x]]
def joinC (sep : List Nat) : List (List Nat) → List Nat
  | [] => []
  | [x] => x
  | x :: r => x ++ sep ++ joinC sep r

/-! ### built-ins by values -/
def isI : Ty → D → MS → Option Bool
  | .int, .non, _ => some false | .bool, .non, _ => some false | .str, .non, _ => some false | .tuple, .non, _ => some false | .list, .non, _ => some false
  | .int, .bool _, _ => some true | .bool, .bool _, _ => some true | .str, .bool _, _ => some false | .tuple, .bool _, _ => some false | .list, .bool _, _ => some false
  | .int, .int _, _ => some true | .bool, .int _, _ => some false | .str, .int _, _ => some false | .tuple, .int _, _ => some false | .list, .int _, _ => some false
  | .int, .str _, _ => some false | .bool, .str _, _ => some false | .str, .str _, _ => some true | .tuple, .str _, _ => some false | .list, .str _, _ => some false
  | .int, .tup _, _ => some false | .bool, .tup _, _ => some false | .str, .tup _, _ => some false | .tuple, .tup _, _ => some true | .list, .tup _, _ => some false
  | t, .ref n, M => match M[n]? with
    | some (.lst _) => match t with
      | .list => some true
      | _ => some false
    | _ => none
  | _, _, _ => none

/-- the classes of errors over a class: the numbers are the program's own; 0: the family, 1: ValueError -/
def rcs : List Nat := [7]
/-- the classes that are raised here: any other number stands for one of them -/
def excN (c : Nat) : Nat := if c ∈ rcs then c else rcs.headD 0
def excLe (c d : Nat) : Bool := decide (d = 0) || decide (d = 1) || decide (excN c = d)

def bi2 : Bi → List D → MS → VQ → Prop
  | .len, [.str s], M, Q => s.length ≤ lim ∧ Q (.int s.length) M
  | .len, [.tup ds], M, Q => Q (.int ds.length) M
  | .len, [.kl ds], M, Q => Q (.int ds.length) M
  | .len, [.ref n], M, Q => match M[n]? with
    | some (.lst ds) => Q (.int ds.length) M
    | some (.dict kvs) => Q (.int kvs.length) M
    | _ => False
  | .isi t, [x], M, Q => match isI t x M with
    | some b => Q (.bool b) M
    | none => False
  | .sorted, [.ref n], M, Q => match M[n]? with
    | some (.lst ds) => match intsOf ds with
      | some ns => ∀ ns' : List Int, ns'.Perm ns → ns'.Pairwise (· ≤ ·) → Q (.ref M.length) (M ++ [.lst (ns'.map .int)])
      | none => False
    | some (.dict kvs) => ∀ ns' : List Int, ns'.Perm (kvs.map (·.1)) → ns'.Pairwise (· ≤ ·) → Q (.ref M.length) (M ++ [.lst (ns'.map .int)])
    | _ => False
  | .tuple, [.tup ds], M, Q => Q (.tup ds) M
  | .tuple, [.ref n], M, Q => match M[n]? with
    | some (.lst ds) => Q (.tup ds) M
    | _ => False
  | .list, [.tup ds], M, Q => Q (.ref M.length) (M ++ [.lst ds])
  | .list, [.ref n], M, Q => match M[n]? with
    | some (.lst ds) => Q (.ref M.length) (M ++ [.lst ds])
    | _ => False
  | .str, [.int i], M, Q => 0 ≤ i ∧ i.natAbs < 2 ^ 1900 ∧ Q (.str (itos i)) M
  | .int, [.int i], M, Q => Q (.int i) M
  | .int, [.bool b], M, Q => Q (.int (if b then 1 else 0)) M
  | .parse, [.str s], M, Q => isFigs s = true ∧ s ≠ [] ∧ s.length ≤ 600 ∧ Q (.int (fromFigs s : Nat)) M
  | .min, [.int i, .int j], M, Q => Q (.int (if j < i then j else i)) M
  | .max, [.int i, .int j], M, Q => Q (.int (if j > i then j else i)) M
  | .all, [.ref n], M, Q => match M[n]? with
    | some (.lst ds) => match boolsOf ds with
      | some bs => Q (.bool (bs.all id)) M
      | none => False
    | _ => False
  | .any, [.ref n], M, Q => match M[n]? with
    | some (.lst ds) => match boolsOf ds with
      | some bs => Q (.bool (bs.any id)) M
      | none => False
    | _ => False
  | _, _, _, _ => False

def meth2 : Mt → D → List D → MS → VQ → Prop
  | .append, .ref n, [y], M, Q => match M[n]? with
    | some (.lst ds) => ds.length < lim ∧ Q .non (M.set n (.lst (ds ++ [y])))
    | _ => False
  | .pop, .ref n, [], M, Q => match M[n]? with
    | some (.lst ds) => match ds[ds.length - 1]? with
      | some d => Q d (M.set n (.lst ds.dropLast))
      | none => False
    | _ => False
  | .pop, .ref n, [.int i], M, Q => match M[n]? with
    | some (.lst ds) => match (if 0 ≤ i then ds[i.toNat]? else none) with
      | some d => ds.length ≤ lim ∧ Q d (M.set n (.lst (ds.eraseIdx i.toNat)))
      | none => False
    | _ => False
  | .dpop, .ref n, [.int i], M, Q => match M[n]? with
    | some (.dict kvs) => match dget kvs i with
      | some d => Q d (M.set n (.dict (ddrop kvs i)))
      | none => False
    | _ => False
  | .insert, .ref n, [.int i, y], M, Q => match M[n]? with
    | some (.lst ds) => ds.length < lim ∧ 0 ≤ i ∧ i < 2 ^ 60 ∧ Q .non (M.set n (.lst (ds.take i.toNat ++ [y] ++ ds.drop i.toNat)))
    | _ => False
  | .extend, .ref n, [.ref m], M, Q => match M[n]?, M[m]? with
    | some (.lst ds), some (.lst es) => ds.length + es.length ≤ lim ∧ Q .non (M.set n (.lst (ds ++ es)))
    | _, _ => False
  | .clear, .ref n, [], M, Q => match M[n]? with
    | some (.lst _) => Q .non (M.set n (.lst []))
    | _ => False
  | .setdefault, .ref n, [.int k, y], M, Q => match M[n]? with
    | some (.dict kvs) => kvs.length < lim ∧ match dget kvs k with
      | some d => Q d M
      | none => Q y (M.set n (.dict (dput kvs k y)))
    | _ => False
  | .split, .str s, [.str [c]], M, Q => s.length ≤ lim ∧ c < 256 ∧ Q (.ref M.length) (M ++ [.lst ((splitC c s).map .str)])
  | .join, .str s, [.ref n], M, Q => match M[n]? with
    | some (.lst ds) => match strsOf ds with
      | some ss => (ss.map (·.length)).sum + ss.length * s.length ≤ lim ∧ Q (.str (joinC s ss)) M
      | none => False
    | _ => False
  | _, _, _, _, _ => False

/-- what a method's receiver has to be, ahead of its arguments -/
def rcv (m : Mt) (x : D) (M : MS) : Prop := match m with
  | .split => ∃ s, x = .str s
  | .join => ∃ s, x = .str s
  | .dpop => ∃ n kvs, x = .ref n ∧ M[n]? = some (.dict kvs)
  | .setdefault => ∃ n kvs, x = .ref n ∧ M[n]? = some (.dict kvs)
  | _ => ∃ n ds, x = .ref n ∧ M[n]? = some (.lst ds)

/-! ### what is walked -/
inductive Hold | free | live (n : Nat) (ds : List D) | lock (n : Nat) (kvs : List (Int × D)) | look (n : Nat) (kvs : List (Int × D))
def Hold.start : Hold → MS → MS
  | .lock n kvs, M => M.set n (.ldict kvs)
  | _, M => M
def Hold.fin : Hold → MS → MS
  | .lock n kvs, M => M.set n (.dict kvs)
  | _, M => M
def Hold.ok : Hold → MS → Prop
  | .free, _ => True
  | .live n ds, M => M[n]? = some (.lst ds)
  | .lock n kvs, M => M[n]? = some (.ldict kvs)
  | .look n kvs, M => M[n]? = some (.ldict kvs)

def rng (a b : Int) : List D := (List.range (b - a).toNat).map fun (k : Nat) => D.int (a + (k : Int))
def enumL : Nat → List D → List D
  | _, [] => []
  | k, d :: r => .tup [.int (k : Int), d] :: enumL (k + 1) r
def walk : ItK → List D → MS → Option (List D × Hold)
  | .tup, [.tup ds], _ => some (ds, .free)
  | .str, [.str s], _ => some (s.map fun c => .str [c], .free)
  | .lst, [.ref n], M => match M[n]? with
    | some (.lst ds) => some (ds, .live n ds)
    | _ => none
  | .keys, [.ref n], M => match M[n]? with
    | some (.dict kvs) => some (kvs.map fun kv => .int kv.1, .lock n kvs)
    | _ => none
  | .range, [.int b], _ => if -(2 ^ 60) ≤ b ∧ b ≤ 2 ^ 60 then some (rng 0 b, .free) else none
  | .range, [.int a, .int b], _ => if -(2 ^ 60) ≤ a ∧ a ≤ 2 ^ 60 ∧ -(2 ^ 60) ≤ b ∧ b ≤ 2 ^ 60 then some (rng a b, .free) else none
  | .rev, [.ref n], M => match M[n]? with
    | some (.lst ds) => some (ds.reverse, .live n ds)
    | _ => none
  | .enumT, [.tup ds], _ => some (enumL 0 ds, .free)
  | .enumL, [.ref n], M => match M[n]? with
    | some (.lst ds) => some (enumL 0 ds, .live n ds)
    | _ => none
  | .values, [.ref n], M => match M[n]? with
    | some (.dict kvs) => some (kvs.map fun kv => kv.2, .lock n kvs)
    | _ => none
  | .lkeys, [.ref n], M => match M[n]? with
    | some (.ldict kvs) => some (kvs.map fun kv => .int kv.1, .look n kvs)
    | _ => none
  | .lvals, [.ref n], M => match M[n]? with
    | some (.ldict kvs) => some (kvs.map fun kv => kv.2, .look n kvs)
    | _ => none
  | _, _, _ => none

/-- several names set from several values -/
def setAll : Loc → List Nat → List D → Option Loc
  | σ, [], [] => some σ
  | σ, i :: is, d :: ds => setAll (σ.set i (some d)) is ds
  | _, _, _ => none
def asgT : LT → D → Loc → Option Loc
  | .name i, d, σ => some (σ.set i (some d))
  | .tup is, .tup ds, σ => setAll σ is ds
  | _, _, _ => none

def wipe (σ : Loc) : List Nat → Loc
  | [] => σ
  | v :: vs => (wipe σ vs).set v none

/-- a comprehension's turns: ys what is made so far -/
def wTurns (h : Hold) (t : LT) (σ : Loc) (c e : Loc → MS → VQ → Prop) (Q : VQ) : List D → List D → MS → Prop
  | [], ys, M => h.ok M ∧ Q (.ref (h.fin M).length) (h.fin M ++ [.lst ys])
  | d :: r, ys, M => h.ok M ∧ match asgT t d σ with
    | some σ' => c σ' M fun b M1 => brn b (e σ' M1 fun y M2 => ys.length < lim ∧ wTurns h t σ c e Q r (ys ++ [y]) M2) (wTurns h t σ c e Q r ys M1)
    | none => False

abbrev Oracle := Nat → List D → MS → VQ → XQ → Prop
/-- what may be called where an error of the class c, held at a, is handled: 999 asks of it whether it is of a class; a def of the text is told of it -/
def Oracle.ex (O : Oracle) (c a : Nat) : Oracle := fun f ds M Q E => if f = 999 then (match ds with
  | [.exc k b, .int t] => k = c ∧ b = a ∧ Q (.bool (excLe c t.toNat)) M
  | _ => False) else O (2000 + f) (.exc c a :: ds) M Q E
mutual
def wE (O : Oracle) : LE → Loc → MS → VQ → XQ → Prop
  | .var i, σ, M, Q, _ => match σ[i]? with
    | some (some d) => Q d M
    | _ => False
  | .con d, _, M, Q, _ => Q d M
  | .bin o a b, σ, M, Q, E => wE O a σ M (fun x M1 => wE O b σ M1 (fun y M2 => bin2 o x y M2 Q) E) E
  | .cmp o a b, σ, M, Q, E => wE O a σ M (fun x M1 => wE O b σ M1 (fun y M2 => cmp2 o x y M2 fun k => Q (.bool k) M2) E) E
  | .chain o o' a b c, σ, M, Q, E => wE O a σ M (fun x M1 => wE O b σ M1 (fun y M2 => cmp2 o x y M2 fun k =>
      if k = true then wE O c σ M2 (fun z M3 => cmp2 o' y z M3 fun k' => Q (.bool k') M3) E else Q (.bool false) M2) E) E
  | .and_ a b, σ, M, Q, E => wE O a σ M (fun x M1 => brn x (wE O b σ M1 Q E) (Q (.bool false) M1)) E
  | .or_ a b, σ, M, Q, E => wE O a σ M (fun x M1 => brn x (Q (.bool true) M1) (wE O b σ M1 Q E)) E
  | .not_ a, σ, M, Q, E => wE O a σ M (fun x M1 => match x with
    | .bool k => Q (.bool (!k)) M1
    | _ => False) E
  | .tup as, σ, M, Q, E => wA O as σ M (fun ds M1 => ds.length ≤ lim ∧ Q (.tup ds) M1) E
  | .lst as, σ, M, Q, E => wA O as σ M (fun ds M1 => ds.length ≤ lim ∧ Q (.ref M1.length) (M1 ++ [.lst ds])) E
  | .dnew, _, M, Q, _ => Q (.ref M.length) (M ++ [.dict []])
  | .dict1 k v, σ, M, Q, E => wE O k σ M (fun x M1 => wE O v σ M1 (fun y M2 => match x with
    | .int i => Q (.ref M2.length) (M2 ++ [.dict [(i, y)]])
    | _ => False) E) E
  | .idx a b, σ, M, Q, E => wE O a σ M (fun x M1 => wE O b σ M1 (fun y M2 => idx2 x y M2 Q) E) E
  | .slice a lo hi, σ, M, Q, E => wE O a σ M (fun x M1 => wA O lo σ M1 (fun l M2 => (partOf l).isSome = true ∧ wA O hi σ M2 (fun h M3 => slice2 x l h M3 Q) E) E) E
  | .revl a, σ, M, Q, E => wE O a σ M (fun x M1 => revl2 x M1 Q) E
  | .call f as, σ, M, Q, E => wA O as σ M (fun ds M1 => O f ds M1 Q E) E
  | .bi b as, σ, M, Q, E => wA O as σ M (fun ds M1 => bi2 b ds M1 Q) E
  | .meth m o as, σ, M, Q, E => wE O o σ M (fun x M1 => rcv m x M1 ∧ wA O as σ M1 (fun ds M2 => meth2 m x ds M2 Q) E) E
  | .umeth m o as, σ, M, Q, E => wE O o σ M (fun x M1 => match x with
    | .ref n => match M1[n]? with
      | some (.inst _ _) => wA O as σ M1 (fun ds M2 => O m (.ref n :: ds) M2 Q E) E
      | _ => False
    | _ => False) E
  | .new c, _, M, Q, E => O c [.ref M.length] (M ++ [.inst c []]) (fun d M1 => match d with
    | .non => Q (.ref M.length) M1
    | _ => False) E
  | .fld o f, σ, M, Q, E => wE O o σ M (fun x M1 => match x with
    | .ref n => match M1[n]? with
      | some (.inst _ fs) => match fs.lookup f with
        | some d => Q d M1
        | none => False
      | _ => False
    | _ => False) E
  | .comp vs k src t c e, σ, M, Q, E => wA O src σ M (fun ds M1 => match walk k ds M1 with
    | some (xs, h) => wTurns h t (wipe σ vs) (fun σ' M' Q' => wE O c σ' M' Q' fun _ _ => False) (fun σ' M' Q' => wE O e σ' M' Q' fun _ _ => False) Q xs [] (h.start M1)
    | none => False) E
  | .compx vs k src t e, σ, M, Q, E => wA O src σ M (fun ds M1 => match walk k ds M1 with
    | some (xs, h) => wTurns h t (wipe σ vs) (fun _ M' Q' => Q' (.bool true) M') (fun σ' M' Q' => wE O e σ' M' Q' E) Q xs [] (h.start M1)
    | none => False) E
def wA (O : Oracle) : LA → Loc → MS → AQ → XQ → Prop
  | .nil, _, M, Q, _ => Q [] M
  | .cons a r, σ, M, Q, E => wE O a σ M (fun d M1 => wA O r σ M1 (fun ds M2 => Q (d :: ds) M2) E) E
end

/-! ### statements -/
structure Ends where
  nx : Loc → MS → Prop
  rt : VQ
  ex : Exn → Loc → MS → Prop

/-- a while's turns, n of them at most -/
def wLoop (c : Loc → MS → VQ → Prop) (b : Loc → MS → Ends → Prop) (En : Ends) : Nat → Loc → MS → Prop
  | 0, _, _ => False
  | n + 1, σ, M => c σ M fun d M1 => brn d (b σ M1 { En with nx := wLoop c b En n }) (En.nx σ M1)
/-- a for's turns -/
def wFor (h : Hold) (t : LT) (b : Loc → MS → Ends → Prop) (En : Ends) : List D → Loc → MS → Prop
  | [], σ, M => h.ok M ∧ En.nx σ (h.fin M)
  | d :: r, σ, M => h.ok M ∧ match asgT t d σ with
    | some σ' => b σ' M { nx := wFor h t b En r, rt := fun v M' => h.ok M' ∧ En.rt v (h.fin M'), ex := fun e σ'' M' => h.ok M' ∧ En.ex e σ'' (h.fin M') }
    | none => False

def wS (O : Oracle) : LS → Loc → MS → Ends → Prop
  | .skip, σ, M, En => En.nx σ M
  | .seq a b, σ, M, En => wS O a σ M { En with nx := fun σ' M' => wS O b σ' M' En }
  | .asg t e, σ, M, En => wE O e σ M (fun d M1 => match asgT t d σ with
    | some σ' => En.nx σ' M1
    | none => False) fun c M' => En.ex c σ M'
  | .setIx o i e, σ, M, En => wE O e σ M (fun d M1 => wE O o σ M1 (fun x M2 => wE O i σ M2 (fun y M3 => match x, y with
    | .ref n, .int k => match M3[n]? with
      | some (.lst ds) => match ixN ds.length k with
        | some j => En.nx σ (M3.set n (.lst (ds.set j d)))
        | none => False
      | some (.dict kvs) => kvs.length < lim ∧ En.nx σ (M3.set n (.dict (dput kvs k d)))
      | _ => False
    | _, _ => False) fun c M' => En.ex c σ M') fun c M' => En.ex c σ M') fun c M' => En.ex c σ M'
  | .setFld o f e, σ, M, En => wE O e σ M (fun d M1 => wE O o σ M1 (fun x M2 => match x with
    | .ref n => match M2[n]? with
      | some (.inst c []) => En.nx σ (M2.set n (.inst c [(f, d)]))
      | _ => False
    | _ => False) fun c M' => En.ex c σ M') fun c M' => En.ex c σ M'
  | .expr e, σ, M, En => wE O e σ M (fun _ M1 => En.nx σ M1) fun c M' => En.ex c σ M'
  | .ret e, σ, M, En => wE O e σ M En.rt fun c M' => En.ex c σ M'
  | .retN, _, M, En => En.rt .non M
  | .ife c a b, σ, M, En => wE O c σ M (fun d M1 => brn d (wS O a σ M1 En) (wS O b σ M1 En)) fun c M' => En.ex c σ M'
  | .whl c b, σ, M, En => ∃ n, wLoop (fun σ' M' Q' => wE O c σ' M' Q' fun x M'' => En.ex x σ' M'') (wS O b) En n σ M
  | .fr t k src b, σ, M, En => wA O src σ M (fun ds M1 => match walk k ds M1 with
    | some (xs, h) => wFor h t (wS O b) En xs σ (h.start M1)
    | none => False) fun c M' => En.ex c σ M'
  | .raise c, σ, M, En => En.ex c σ M
  | .tryx b cls v h, σ, M, En => wS O b σ M { En with ex := fun c σ' M' => bif excLe c cls then (match v with
      | none => ∀ a : Nat, wS (O.ex c a) h σ' M' { nx := En.nx, rt := En.rt, ex := fun _ _ _ => False }
      | some i => ∀ a : Nat, wS (O.ex c a) h (σ'.set i (some (.exc c a))) M' { nx := fun σ'' M'' => En.nx (σ''.set i none) M'', rt := En.rt, ex := fun _ _ _ => False }) else En.ex c σ' M' }

/-- a def's call, at most n deep -/
def wF (P : Nat → Option Fn) : Nat → Oracle
  | 0 => fun _ _ _ _ _ => False
  | n + 1 => fun f ds M Q E => if f < 2000 then (match P f with
    | some d => ds.length = d.nargs ∧ wS (wF P n) d.body (ds.map some ++ List.replicate (d.nslots - d.nargs) none) M { nx := fun _ M' => Q .non M', rt := Q, ex := fun c _ M' => E c M' }
    | none => False) else (match ds with
    | .exc c a :: es => (match P (f - 2000) with
      | some d => es.length = d.nargs ∧ wS ((wF P n).ex c a) d.body (es.map some ++ List.replicate (d.nslots - d.nargs) none) M { nx := fun _ M' => Q .non M', rt := Q, ex := fun c' _ M' => E c' M' }
      | none => False)
    | _ => False)
end Sl
/-! Rules: a while by a measure, a for and a comprehension by what holds between the turns. -/
namespace Sl

theorem whl_inv {O : Oracle} {c : LE} {b : LS} {nx : Loc → MS → Prop} {rt : VQ} {ex : Exn → Loc → MS → Prop} (I : Nat → Loc → MS → Prop) {k : Nat} {σ : Loc} {M : MS} (h : I k σ M)
    (step : ∀ (k : Nat) (σ : Loc) (M : MS) (N : Loc → MS → Prop), I k σ M → (∀ k' σ' M', k' < k → I k' σ' M' → N σ' M') →
      wE O c σ M (fun d M1 => brn d (wS O b σ M1 ⟨N, rt, ex⟩) (nx σ M1)) fun x M'' => ex x σ M'')
    : wS O (.whl c b) σ M ⟨nx, rt, ex⟩ := by
  have key : ∀ (n k : Nat) (σ : Loc) (M : MS), k < n → I k σ M → wLoop (fun σ' M' Q' => wE O c σ' M' Q' fun x M'' => ex x σ' M'') (wS O b) ⟨nx, rt, ex⟩ n σ M := by
    intro n
    induction n with
    | zero => intro k σ M h _; exact absurd h (Nat.not_lt_zero _)
    | succ n ih =>
      intro k σ M hk hI
      exact step k σ M _ hI (fun k' σ' M' h1 h2 => ih k' σ' M' (by omega) h2)
  rw [wS]
  exact ⟨k + 1, key (k + 1) k σ M (Nat.lt_succ_self _) h⟩

theorem fr_inv {O : Oracle} {t : LT} {ik : ItK} {src : LA} {b : LS} {nx : Loc → MS → Prop} {rt : VQ} {ex : Exn → Loc → MS → Prop} {σ : Loc} {M : MS}
    (h : wA O src σ M (fun ds M1 => ∃ xs h, walk ik ds M1 = some (xs, h) ∧ wFor h t (wS O b) ⟨nx, rt, ex⟩ xs σ (h.start M1)) fun c M' => ex c σ M')
    (hm : ∀ A A' : AQ, (∀ ds M', A ds M' → A' ds M') → wA O src σ M A (fun c M' => ex c σ M') → wA O src σ M A' (fun c M' => ex c σ M')) :
    wS O (.fr t ik src b) σ M ⟨nx, rt, ex⟩ := by
  rw [wS]
  refine hm _ _ (fun ds M1 h => ?_) h
  obtain ⟨xs, h, h1, h2⟩ := h
  simp only [h1]
  exact h2
theorem wFor_inv {h : Hold} {t : LT} {b : Loc → MS → Ends → Prop} {En : Ends} (I : List D → Loc → MS → Prop)
    (hd : ∀ σ M, I [] σ M → h.ok M ∧ En.nx σ (h.fin M))
    (step : ∀ (d : D) (r : List D) (σ : Loc) (M : MS) (N : Loc → MS → Prop), I (d :: r) σ M → (∀ σ' M', I r σ' M' → N σ' M') →
      h.ok M ∧ ∃ σ', asgT t d σ = some σ' ∧ b σ' M { nx := N, rt := fun v M' => h.ok M' ∧ En.rt v (h.fin M'), ex := fun e σ'' M' => h.ok M' ∧ En.ex e σ'' (h.fin M') }) :
    ∀ (ds : List D) (σ : Loc) (M : MS), I ds σ M → wFor h t b En ds σ M
  | [], σ, M, hI => hd σ M hI
  | d :: r, σ, M, hI => by
    obtain ⟨h1, σ', h2, h3⟩ := step d r σ M _ hI (fun σ' M' hI' => wFor_inv I hd step r σ' M' hI')
    rw [wFor]
    refine ⟨h1, ?_⟩
    rw [h2]
    exact h3

theorem wTurns_inv {h : Hold} {t : LT} {σ : Loc} {c e : Loc → MS → VQ → Prop} {Q : VQ} (I : List D → List D → MS → Prop)
    (hd : ∀ ys M, I [] ys M → h.ok M ∧ Q (.ref (h.fin M).length) (h.fin M ++ [.lst ys]))
    (step : ∀ (d : D) (r ys : List D) (M : MS) (N : List D → MS → Prop), I (d :: r) ys M → (∀ ys' M', I r ys' M' → N ys' M') → h.ok M ∧ ∃ σ', asgT t d σ = some σ' ∧
      c σ' M fun b M1 => brn b (e σ' M1 fun y M2 => ys.length < lim ∧ N (ys ++ [y]) M2) (N ys M1)) :
    ∀ (ds ys : List D) (M : MS), I ds ys M → wTurns h t σ c e Q ds ys M
  | [], ys, M, hI => hd ys M hI
  | d :: r, ys, M, hI => by
    obtain ⟨h1, σ', h2, h3⟩ := step d r ys M _ hI (fun ys' M' h' => wTurns_inv I hd step r ys' M' h')
    rw [wTurns]
    refine ⟨h1, ?_⟩
    rw [h2]
    exact h3
end Sl
/-! Step: one rule a word, for going through a def from behind. -/
namespace Sl
section
variable {P : Nat → Option Fn} {O : Oracle} {σ : Loc} {M : MS} {Q : VQ} {A : AQ} {E : XQ} {En : Ends} {a b c e : LE} {as lo hi : LA} {s t : LS} {i j : Int} {d x y : D} {ds es : List D} {n m : Nat}
theorem wF_call {f n : Nat} {d : Fn} (hP : P f = some d) (hl : ds.length = d.nargs)
    (h : wS (wF P n) d.body (ds.map some ++ List.replicate (d.nslots - d.nargs) none) M { nx := fun _ M' => Q .non M', rt := Q, ex := fun c _ M' => E c M' }) (hf : f < 2000 := by decide) : wF P (n + 1) f ds M Q E := by
  rw [wF]
  dsimp only
  rw [if_pos hf, hP]
  exact ⟨hl, h⟩
/-- a def called where an error is handled -/
theorem wF_hot {f n c a : Nat} {d : Fn} (hP : P f = some d) (hl : ds.length = d.nargs)
    (h : wS ((wF P n).ex c a) d.body (ds.map some ++ List.replicate (d.nslots - d.nargs) none) M { nx := fun _ M' => Q .non M', rt := Q, ex := fun c' _ M' => E c' M' }) : wF P (n + 1) (2000 + f) (.exc c a :: ds) M Q E := by
  rw [wF]
  dsimp only
  rw [if_neg (by omega), show 2000 + f - 2000 = f by omega, hP]
  exact ⟨hl, h⟩
theorem ex_isx {c a : Nat} {t : Int} (h : Q (.bool (excLe c t.toNat)) M) : (O.ex c a) 999 [.exc c a, .int t] M Q E := by
  unfold Oracle.ex
  rw [if_pos rfl]
  exact ⟨rfl, rfl, h⟩
theorem ex_call {c a f : Nat} (hf : f ≠ 999) (h : O (2000 + f) (.exc c a :: ds) M Q E) : (O.ex c a) f ds M Q E := by
  unfold Oracle.ex
  rw [if_neg hf]
  exact h
theorem atI_nat {α : Type} (xs : List α) (k : Nat) : atI xs (k : Int) = xs[k]? := by
  unfold atI ixN
  rw [if_pos (Int.natCast_nonneg k)]
  by_cases h : k < xs.length
  · rw [if_pos (by omega)]
    show xs[(k : Int).toNat]? = _
    rw [Int.toNat_natCast]
  · rw [if_neg (by omega), List.getElem?_eq_none (by omega)]
    rfl
/-! powers -/
theorem ipow_add (b : Int) (m : Nat) : ∀ n : Nat, b ^ (m + n) = b ^ m * b ^ n
  | 0 => by rw [Nat.add_zero, Int.pow_zero, Int.mul_one]
  | n + 1 => by rw [← Nat.add_assoc, Int.pow_succ, ipow_add b m n, Int.pow_succ, Int.mul_assoc]
theorem pow_mod_l (a : Int) (m : Int) : ∀ n : Nat, (a % m) ^ n % m = a ^ n % m
  | 0 => by rw [Int.pow_zero, Int.pow_zero]
  | n + 1 => by rw [Int.pow_succ, Int.pow_succ, Int.mul_emod, pow_mod_l a m n, Int.emod_emod, ← Int.mul_emod]
theorem mod_mul_l (a b m : Int) : a % m * b % m = a * b % m := by rw [Int.mul_emod, Int.emod_emod, ← Int.mul_emod]
theorem mod_mul_r (a b m : Int) : a * (b % m) % m = a * b % m := by rw [Int.mul_emod, Int.emod_emod, ← Int.mul_emod]
theorem sq_pow (h : Int) : ∀ k : Nat, (h * h) ^ k = h ^ (2 * k)
  | 0 => by rw [Int.pow_zero, Nat.mul_zero, Int.pow_zero]
  | k + 1 => by rw [Int.pow_succ, sq_pow h k, show 2 * (k + 1) = 2 * k + 1 + 1 by omega, Int.pow_succ, Int.pow_succ, Int.mul_assoc]
theorem Sm.pow {b : Int} {i : Nat} (h0 : 0 ≤ b) (h1 : b ≤ 10 ^ 30) (hi : i ≤ 12) : Sm (b ^ i) := by
  refine Sm.of_nat 1300 ?_ (by decide)
  rw [Int.natAbs_pow]
  refine Nat.lt_of_le_of_lt (Nat.pow_le_pow_left (show b.natAbs ≤ 10 ^ 30 by omega) i) ?_
  exact Nat.lt_of_le_of_lt (Nat.pow_le_pow_right (by decide) hi) (by decide +kernel)
theorem rng_len (a b : Int) : (rng a b).length = (b - a).toNat := by unfold rng; rw [List.length_map, List.length_range]
/-! statements -/
variable {nx : Loc → MS → Prop} {rt : VQ} {ex : Exn → Loc → MS → Prop}
theorem x_seq (h : wS O s σ M ⟨fun σ' M' => wS O t σ' M' ⟨nx, rt, ex⟩, rt, ex⟩) : wS O (.seq s t) σ M ⟨nx, rt, ex⟩ := by rw [wS]; exact h
theorem x_skip (h : nx σ M) : wS O .skip σ M ⟨nx, rt, ex⟩ := by rw [wS]; exact h
theorem x_asg {k : Nat} (h : wE O e σ M (fun d M1 => nx (σ.set k (some d)) M1) fun c M' => ex c σ M') : wS O (.asg (.name k) e) σ M ⟨nx, rt, ex⟩ := by rw [wS]; exact h
theorem x_asgV {is : List Nat} {k : Nat} {σ' : Loc} (h0 : σ[k]? = some (some (.tup ds))) (h1 : setAll σ is ds = some σ') (h : nx σ' M) : wS O (.asg (.tup is) (.var k)) σ M ⟨nx, rt, ex⟩ := by
  rw [wS, wE]
  simp only [h0, asgT, h1]
  exact h
theorem x_expr (h : wE O e σ M (fun _ M1 => nx σ M1) fun c M' => ex c σ M') : wS O (.expr e) σ M ⟨nx, rt, ex⟩ := by rw [wS]; exact h
theorem x_ret (h : wE O e σ M rt fun c M' => ex c σ M') : wS O (.ret e) σ M ⟨nx, rt, ex⟩ := by rw [wS]; exact h
theorem x_ife (h : wE O c σ M (fun d M1 => brn d (wS O s σ M1 ⟨nx, rt, ex⟩) (wS O t σ M1 ⟨nx, rt, ex⟩)) fun c M' => ex c σ M') : wS O (.ife c s t) σ M ⟨nx, rt, ex⟩ := by rw [wS]; exact h
/-- what holds behind a statement, told once -/
theorem x_join (J : Loc → MS → Prop) (hJ : ∀ σ' M', J σ' M' → nx σ' M') (h : (∀ σ' M', J σ' M' → nx σ' M') → wS O s σ M ⟨nx, rt, ex⟩) : wS O s σ M ⟨nx, rt, ex⟩ := h hJ
theorem x_joinB (J : Loc → MS → Prop) {B : Prop} (hJ : ∀ σ' M', J σ' M' → nx σ' M') (h : (∀ σ' M', J σ' M' → nx σ' M') → brn d (wS O s σ M ⟨nx, rt, ex⟩) B) : brn d (wS O s σ M ⟨nx, rt, ex⟩) B := h hJ
theorem x_joinE (J : VQ) (hJ : ∀ d M', J d M' → Q d M') (h : (∀ d M', J d M' → Q d M') → wE O e σ M Q E) : wE O e σ M Q E := h hJ
theorem x_joinEB (J : VQ) {B : Prop} (hJ : ∀ d M', J d M' → Q d M') (h : (∀ d M', J d M' → Q d M') → brn d (wE O e σ M Q E) B) : brn d (wE O e σ M Q E) B := h hJ
/-! expressions -/
theorem x_var {k : Nat} (h0 : σ[k]? = some (some d)) (h : Q d M) : wE O (.var k) σ M Q E := by rw [wE]; simp only [h0]; exact h
theorem x_con (h : Q d M) : wE O (.con d) σ M Q E := by rw [wE]; exact h
theorem x_bin {o : Op2} (h : wE O a σ M (fun x M1 => wE O b σ M1 (fun y M2 => bin2 o x y M2 Q) E) E) : wE O (.bin o a b) σ M Q E := by rw [wE]; exact h
theorem x_cmp {o : Cmp} (h : wE O a σ M (fun x M1 => wE O b σ M1 (fun y M2 => cmp2 o x y M2 fun k => Q (.bool k) M2) E) E) : wE O (.cmp o a b) σ M Q E := by rw [wE]; exact h
theorem x_chain {o o' : Cmp} (h : wE O a σ M (fun x M1 => wE O b σ M1 (fun y M2 => cmp2 o x y M2 fun k => brn (.bool k) (wE O c σ M2 (fun z M3 => cmp2 o' y z M3 fun k' => Q (.bool k') M3) E) (Q (.bool false) M2)) E) E) :
    wE O (.chain o o' a b c) σ M Q E := by
  rw [wE]
  simp only [brn_bool] at h
  exact h
theorem x_and (h : wE O a σ M (fun x M1 => brn x (wE O b σ M1 Q E) (Q (.bool false) M1)) E) : wE O (.and_ a b) σ M Q E := by rw [wE]; exact h
theorem x_or (h : wE O a σ M (fun x M1 => brn x (Q (.bool true) M1) (wE O b σ M1 Q E)) E) : wE O (.or_ a b) σ M Q E := by rw [wE]; exact h
def notD (d : D) (Q : D → Prop) : Prop := match d with
  | .bool k => Q (.bool (!k))
  | _ => False
theorem x_not (h : wE O a σ M (fun x M1 => notD x fun z => Q z M1) E) : wE O (.not_ a) σ M Q E := by rw [wE]; exact h
theorem x_notD {k : Bool} {Q : D → Prop} (h : Q (.bool (!k))) : notD (.bool k) Q := h
theorem x_tup (h : wA O as σ M (fun ds M1 => ds.length ≤ lim ∧ Q (.tup ds) M1) E) : wE O (.tup as) σ M Q E := by rw [wE]; exact h
theorem x_lst (h : wA O as σ M (fun ds M1 => ds.length ≤ lim ∧ Q (.ref M1.length) (M1 ++ [.lst ds])) E) : wE O (.lst as) σ M Q E := by rw [wE]; exact h
theorem x_dnew (h : Q (.ref M.length) (M ++ [.dict []])) : wE O .dnew σ M Q E := by rw [wE]; exact h
theorem x_idx (h : wE O a σ M (fun x M1 => wE O b σ M1 (fun y M2 => idx2 x y M2 Q) E) E) : wE O (.idx a b) σ M Q E := by rw [wE]; exact h
theorem x_slice (h : wE O a σ M (fun x M1 => wA O lo σ M1 (fun l M2 => (partOf l).isSome = true ∧ wA O hi σ M2 (fun h M3 => slice2 x l h M3 Q) E) E) E) : wE O (.slice a lo hi) σ M Q E := by rw [wE]; exact h
theorem x_revl (h : wE O a σ M (fun x M1 => revl2 x M1 Q) E) : wE O (.revl a) σ M Q E := by rw [wE]; exact h
theorem x_call {f : Nat} (h : wA O as σ M (fun ds M1 => O f ds M1 Q E) E) : wE O (.call f as) σ M Q E := by rw [wE]; exact h
theorem x_bi {k : Bi} (h : wA O as σ M (fun ds M1 => bi2 k ds M1 Q) E) : wE O (.bi k as) σ M Q E := by rw [wE]; exact h
theorem x_meth {k : Mt} (h : wE O a σ M (fun x M1 => rcv k x M1 ∧ wA O as σ M1 (fun ds M2 => meth2 k x ds M2 Q) E) E) : wE O (.meth k a as) σ M Q E := by rw [wE]; exact h
theorem x_nil (h : A [] M) : wA O .nil σ M A E := by rw [wA]; exact h
theorem x_cons (h : wE O a σ M (fun d M1 => wA O as σ M1 (fun ds M2 => A (d :: ds) M2) E) E) : wA O (.cons a as) σ M A E := by rw [wA]; exact h
theorem x_small {p : Prop} {k : Nat} (h0 : k ≤ lim) (h : p) : k ≤ lim ∧ p := ⟨h0, h⟩
/-! branches -/
theorem x_brn {p : Prop} [Decidable p] {A B : Prop} (h1 : p → A) (h2 : ¬ p → B) : brn (.bool (decide p)) A B := by
  rw [brn_bool]
  by_cases h : p
  · rw [if_pos (decide_eq_true h)]; exact h1 h
  · rw [if_neg (by simpa using h)]; exact h2 h
theorem x_brn' {p : Prop} [Decidable p] {A B : Prop} (h1 : ¬ p → A) (h2 : p → B) : brn (.bool (!decide p)) A B := by
  rw [brn_bool]
  by_cases h : p
  · rw [if_neg (by simpa using h)]; exact h2 h
  · rw [if_pos (by simpa using h)]; exact h1 h
theorem x_brnT {A B : Prop} (h : A) : brn (.bool true) A B := by rw [brn_bool, if_pos rfl]; exact h
theorem x_brnF {A B : Prop} (h : B) : brn (.bool false) A B := by rw [brn_bool, if_neg Bool.false_ne_true]; exact h
theorem x_brnB {k : Bool} {A B : Prop} (h1 : k = true → A) (h2 : k = false → B) : brn (.bool k) A B := by
  rw [brn_bool]
  cases k
  · rw [if_neg Bool.false_ne_true]; exact h2 rfl
  · rw [if_pos rfl]; exact h1 rfl
/-- the one way proved once -/
theorem x_dup {p : Prop} [Decidable p] {A B : Prop} (hB : B) (hA : p → B → A) : brn (.bool (decide p)) A B := x_brn (fun h => hA h hB) fun _ => hB
theorem x_dupA {p : Prop} [Decidable p] {A B : Prop} (hA : A) (hB : ¬ p → A → B) : brn (.bool (decide p)) A B := x_brn (fun _ => hA) fun h => hB h hA
theorem x_dup' {p : Prop} [Decidable p] {A B : Prop} (hB : B) (hA : ¬ p → B → A) : brn (.bool (!decide p)) A B := x_brn' (fun h => hA h hB) fun _ => hB
theorem x_dupA' {p : Prop} [Decidable p] {A B : Prop} (hA : A) (hB : p → A → B) : brn (.bool (!decide p)) A B := x_brn' (fun _ => hA) fun h => hB h hA
theorem x_dupB {k : Bool} {A B : Prop} (hB : B) (hA : k = true → B → A) : brn (.bool k) A B := x_brnB (fun h => hA h hB) fun _ => hB
/-- a test whose answer is known -/
theorem x_yes {p : Prop} [Decidable p] {A B : Prop} (hp : p) (h : A) : brn (.bool (decide p)) A B := x_brn (fun _ => h) fun q => absurd hp q
theorem x_no {p : Prop} [Decidable p] {A B : Prop} (hp : ¬ p) (h : B) : brn (.bool (decide p)) A B := x_brn (fun q => absurd q hp) fun _ => h
theorem x_yes' {p : Prop} [Decidable p] {A B : Prop} (hp : ¬ p) (h : A) : brn (.bool (!decide p)) A B := x_brn' (fun _ => h) fun q => absurd q hp
theorem x_no' {p : Prop} [Decidable p] {A B : Prop} (hp : p) (h : B) : brn (.bool (!decide p)) A B := x_brn' (fun q => absurd hp q) fun _ => h
/-! numbers -/
theorem x_addI (h : Q (.int (i + j)) M) : bin2 .add (.int i) (.int j) M Q := h
theorem x_subI (h : Q (.int (i - j)) M) : bin2 .sub (.int i) (.int j) M Q := h
theorem x_mulI (h1 : Sm i) (h2 : Sm j) (h : Q (.int (i * j)) M) : bin2 .mul (.int i) (.int j) M Q := ⟨h1, h2, h⟩
theorem x_divI (h0 : 0 < j) (h1 : Sm j) (h : Q (.int (i / j)) M) : bin2 .fdiv (.int i) (.int j) M Q := ⟨h0, h1, h⟩
theorem x_modI (h0 : 0 < j) (h : Q (.int (i % j)) M) : bin2 .mod (.int i) (.int j) M Q := ⟨h0, h⟩
theorem x_powI (h0 : 0 ≤ j) (h1 : j ≤ 1000000) (h2 : i.natAbs < 2 ^ 64) (h : Q (.int (i ^ j.toNat)) M) : bin2 .pow (.int i) (.int j) M Q := ⟨h0, h1, h2, h⟩
variable {R : Bool → Prop}
theorem x_lt (h : R (decide (i < j))) : cmp2 .lt (.int i) (.int j) M R := h
theorem x_le (h : R (decide (i ≤ j))) : cmp2 .le (.int i) (.int j) M R := h
theorem x_gt (h : R (decide (j < i))) : cmp2 .gt (.int i) (.int j) M R := h
theorem x_ge (h : R (decide (j ≤ i))) : cmp2 .ge (.int i) (.int j) M R := h
theorem wEq_int : wEq (.int i) (.int j) M R = R (decide (i = j)) := by
  unfold wEq; rw [if_pos ⟨rfl, rfl⟩]
  have : eqv (.int i) (.int j) = decide (i = j) := by rw [eqv]; exact (Bool.beq_eq_decide_eq i j)
  rw [this]
theorem wEq_bool {a b : Bool} : wEq (.bool a) (.bool b) M R = R (decide (a = b)) := by
  unfold wEq; rw [if_pos ⟨rfl, rfl⟩]
  have : eqv (.bool a) (.bool b) = decide (a = b) := by rw [eqv]; exact (Bool.beq_eq_decide_eq a b)
  rw [this]
theorem wEq_str {s t : List Nat} : wEq (.str s) (.str t) M R = R (decide (s = t)) := by
  unfold wEq; rw [if_pos ⟨rfl, rfl⟩]
  have : eqv (.str s) (.str t) = decide (s = t) := by rw [eqv]; exact (Bool.beq_eq_decide_eq s t)
  rw [this]
theorem x_eqI (h : R (decide (i = j))) : cmp2 .eq (.int i) (.int j) M R := by show wEq (.int i) (.int j) M R; rw [wEq_int]; exact h
theorem x_neI (h : R (!decide (i = j))) : cmp2 .ne (.int i) (.int j) M R := by show wEq (.int i) (.int j) M (fun b => R (!b)); rw [wEq_int]; exact h
theorem x_eqS {s t : List Nat} (h : R (decide (s = t))) : cmp2 .eq (.str s) (.str t) M R := by show wEq (.str s) (.str t) M R; rw [wEq_str]; exact h
theorem x_neS {s t : List Nat} (h : R (!decide (s = t))) : cmp2 .ne (.str s) (.str t) M R := by show wEq (.str s) (.str t) M (fun b => R (!b)); rw [wEq_str]; exact h
theorem x_eqB {s t : Bool} (h : R (decide (s = t))) : cmp2 .eq (.bool s) (.bool t) M R := by show wEq (.bool s) (.bool t) M R; rw [wEq_bool]; exact h
theorem x_neB {s t : Bool} (h : R (!decide (s = t))) : cmp2 .ne (.bool s) (.bool t) M R := by show wEq (.bool s) (.bool t) M (fun b => R (!b)); rw [wEq_bool]; exact h
/-! sequences -/
theorem x_ixT (h0 : atI ds i = some d) (h : Q d M) : idx2 (.tup ds) (.int i) M Q := by
  show (match atI ds i with | some d => Q d M | none => False)
  rw [h0]; exact h
theorem x_ixL (hM : M[n]? = some (.lst ds)) (h0 : atI ds i = some d) (h : Q d M) : idx2 (.ref n) (.int i) M Q := by
  simp only [idx2, hM, h0]; exact h
theorem x_ixK (h0 : atI ds i = some d) (h : Q d M) : idx2 (.kl ds) (.int i) M Q := by
  simp only [idx2, h0]; exact h
theorem x_ixD {kvs : List (Int × D)} (hM : M[n]? = some (.dict kvs)) (h0 : dget kvs i = some d) (h : Q d M) : idx2 (.ref n) (.int i) M Q := by
  simp only [idx2, hM, h0]; exact h
theorem x_lenT (h : Q (.int ds.length) M) : bi2 .len [.tup ds] M Q := h
theorem x_lenL (hM : M[n]? = some (.lst ds)) (h : Q (.int ds.length) M) : bi2 .len [.ref n] M Q := by
  simp only [bi2, hM]; exact h
theorem x_lenK (h : Q (.int ds.length) M) : bi2 .len [.kl ds] M Q := h
theorem x_lenD {kvs : List (Int × D)} (hM : M[n]? = some (.dict kvs)) (h : Q (.int kvs.length) M) : bi2 .len [.ref n] M Q := by
  simp only [bi2, hM]; exact h
theorem x_isi {t : Ty} {k : Bool} (h0 : isI t x M = some k) (h : Q (.bool k) M) : bi2 (.isi t) [x] M Q := by
  simp only [bi2, h0]; exact h
theorem x_append (hM : M[n]? = some (.lst ds)) (hl : ds.length < lim) (h : Q .non (M.set n (.lst (ds ++ [y])))) : meth2 .append (.ref n) [y] M Q := by
  simp only [meth2, hM]; exact ⟨hl, h⟩
theorem x_catL (h1 : M[n]? = some (.lst ds)) (h2 : M[m]? = some (.lst es)) (hl : ds.length + es.length ≤ lim) (h : Q (.ref M.length) (M ++ [.lst (ds ++ es)])) : bin2 .add (.ref n) (.ref m) M Q := by
  simp only [bin2, h1, h2]; exact ⟨hl, h⟩
theorem x_all {bs : List Bool} (hM : M[n]? = some (.lst ds)) (hb : boolsOf ds = some bs) (h : Q (.bool (bs.all id)) M) : bi2 .all [.ref n] M Q := by
  simp only [bi2, hM, hb]; exact h
/-! what is walked -/
def wk2 (k : ItK) (ds : List D) (M : MS) (F : List D → Hold → Prop) : Prop := match walk k ds M with
  | some (xs, h) => F xs h
  | none => False
theorem x_for {t' : LT} {k : ItK} {src : LA} (h : wA O src σ M (fun ds M1 => wk2 k ds M1 fun xs h => wFor h t' (wS O s) ⟨nx, rt, ex⟩ xs σ (h.start M1)) fun c M' => ex c σ M') : wS O (.fr t' k src s) σ M ⟨nx, rt, ex⟩ := by rw [wS]; exact h
theorem x_comp {vs : List Nat} {t' : LT} {k : ItK} {src : LA} (h : wA O src σ M (fun ds M1 => wk2 k ds M1 fun xs h => wTurns h t' (wipe σ vs) (fun σ' M' Q' => wE O c σ' M' Q' fun _ _ => False) (fun σ' M' Q' => wE O e σ' M' Q' fun _ _ => False) Q xs [] (h.start M1)) E) :
    wE O (.comp vs k src t' c e) σ M Q E := by rw [wE]; exact h
variable {F : List D → Hold → Prop}
theorem x_wkL (hM : M[n]? = some (.lst ds)) (h : F ds (.live n ds)) : wk2 .lst [.ref n] M F := by simp only [wk2, walk, hM]; exact h
theorem x_wkT (h : F ds .free) : wk2 .tup [.tup ds] M F := h
theorem x_wkS {z : List Nat} (h : F (z.map fun c => .str [c]) .free) : wk2 .str [.str z] M F := h
theorem x_wkR (h0 : -(2 ^ 60) ≤ i) (h1 : i ≤ 2 ^ 60) (h : F (rng 0 i) .free) : wk2 .range [.int i] M F := by simp only [wk2, walk, h0, h1, and_self, if_true]; exact h
theorem x_wkR2 (h0 : -(2 ^ 60) ≤ i) (h1 : i ≤ 2 ^ 60) (h2 : -(2 ^ 60) ≤ j) (h3 : j ≤ 2 ^ 60) (h : F (rng i j) .free) : wk2 .range [.int i, .int j] M F := by simp only [wk2, walk, h0, h1, h2, h3, and_self, if_true]; exact h
theorem x_wkV (hM : M[n]? = some (.lst ds)) (h : F ds.reverse (.live n ds)) : wk2 .rev [.ref n] M F := by simp only [wk2, walk, hM]; exact h
theorem x_wkE (hM : M[n]? = some (.lst ds)) (h : F (enumL 0 ds) (.live n ds)) : wk2 .enumL [.ref n] M F := by simp only [wk2, walk, hM]; exact h
theorem x_wkET (h : F (enumL 0 ds) .free) : wk2 .enumT [.tup ds] M F := h
/-- a comprehension whose parts change nothing -/
theorem turns_map {h : Hold} {t' : LT} {c' e' : Loc → MS → VQ → Prop} (p : D → Bool) (g : D → D) (hk : h.ok M) : ∀ (xs ys : List D), ys.length + xs.length ≤ lim →
    (∀ d ∈ xs, ∃ σ', asgT t' d σ = some σ' ∧ (∀ R : VQ, R (.bool (p d)) M → c' σ' M R) ∧ (p d = true → ∀ R : VQ, R (g d) M → e' σ' M R)) →
    Q (.ref (h.fin M).length) (h.fin M ++ [.lst (ys ++ (xs.filter p).map g)]) → wTurns h t' σ c' e' Q xs ys M
  | [], ys, _, _, q => by
    rw [wTurns]
    rw [List.filter_nil, List.map_nil, List.append_nil] at q
    exact ⟨hk, q⟩
  | d :: r, ys, hl, hx, q => by
    obtain ⟨σ', h1, h2, h3⟩ := hx d List.mem_cons_self
    rw [wTurns, h1]
    rw [List.length_cons] at hl
    refine ⟨hk, h2 _ ?_⟩
    rw [brn_bool]
    cases hp : p d with
    | true =>
      rw [if_pos rfl]
      refine h3 hp _ ⟨by omega, turns_map p g hk r (ys ++ [g d]) (by rw [List.length_append]; show ys.length + 1 + r.length ≤ lim; omega) (fun d' h' => hx d' (List.mem_cons_of_mem _ h')) ?_⟩
      rw [List.filter_cons_of_pos hp, List.map_cons] at q
      rw [List.append_assoc]
      exact q
    | false =>
      rw [if_neg Bool.false_ne_true]
      refine turns_map p g hk r ys (by omega) (fun d' h' => hx d' (List.mem_cons_of_mem _ h')) ?_
      rw [List.filter_cons_of_neg (by rw [hp]; exact Bool.false_ne_true)] at q
      exact q
theorem turns_all {h : Hold} {t' : LT} {c' e' : Loc → MS → VQ → Prop} (g : D → D) {xs : List D} (hl : xs.length ≤ lim) (hk : h.ok M)
    (hx : ∀ d ∈ xs, ∃ σ', asgT t' d σ = some σ' ∧ (∀ R : VQ, R (.bool true) M → c' σ' M R) ∧ (∀ R : VQ, R (g d) M → e' σ' M R))
    (q : Q (.ref M.length) (M ++ [.lst (xs.map g)])) (hf : h.fin M = M := by rfl) : wTurns h t' σ c' e' Q xs [] M := by
  refine turns_map (fun _ => true) g hk xs [] (by rw [List.length_nil, Nat.zero_add]; exact hl) (fun d hd => ?_) ?_
  · obtain ⟨σ', h1, h2, h3⟩ := hx d hd
    exact ⟨σ', h1, h2, fun _ => h3⟩
  · rw [hf, List.filter_eq_self.mpr (fun _ _ => rfl)]
    exact q
theorem x_isT {k : Bool} {A B : Prop} (h0 : k = true) (h : A) : brn (.bool k) A B := by subst h0; exact x_brnT h
theorem x_isF {k : Bool} {A B : Prop} (h0 : k = false) (h : B) : brn (.bool k) A B := by subst h0; exact x_brnF h
theorem boolsOf_map {α : Type} (l : List α) (f : α → Bool) : boolsOf (l.map fun x => .bool (f x)) = some (l.map f) := by
  induction l with
  | nil => rfl
  | cons x r ih => rw [List.map_cons, boolsOf, ih]; rfl
/-- tuples of numbers -/
theorem x_eqP {r s : D} (h0 : ¬ (isSc x = true ∧ isSc y = true)) (h1 : res M x = some r) (h2 : res M y = some s) (h3 : okN 60 r = true) (h4 : okN 60 s = true) (h : R (eqv r s)) : cmp2 .eq x y M R := by
  show wEq x y M R
  unfold wEq
  rw [if_neg h0, h1, h2]
  exact ⟨h3, h4, h⟩
theorem x_neP {r s : D} (h0 : ¬ (isSc x = true ∧ isSc y = true)) (h1 : res M x = some r) (h2 : res M y = some s) (h3 : okN 60 r = true) (h4 : okN 60 s = true) (h : R (!eqv r s)) : cmp2 .ne x y M R := by
  show wEq x y M fun b => R (!b)
  unfold wEq
  rw [if_neg h0, h1, h2]
  exact ⟨h3, h4, h⟩
end
end Sl
/-! Thing: data that may be looked at whole: its lists told, not too deep. -/
namespace Sl
/-- j: how deep lists lie in lists; k: how deep all is -/
def Th (M : MS) (j k : Nat) (d : D) : Prop := ∃ r, resF (resN M j) d = some r ∧ okN k r = true
mutual
theorem resF_mono {f g : Nat → Option D} (h : ∀ n r, f n = some r → g n = some r) : ∀ (d r : D), resF f d = some r → resF g d = some r
  | .non, _, e => e
  | .bool _, _, e => e
  | .int _, _, e => e
  | .str _, _, e => e
  | .tup ds, r, e => by
    rw [resF] at e ⊢
    cases hs : resFs f ds with
    | none => rw [hs] at e; cases e
    | some es =>
      rw [hs] at e
      rw [resFs_mono h ds es hs]
      exact e
  | .lv _, _, e => by rw [resF] at e; cases e
  | .ref n, r, e => by rw [resF] at e ⊢; exact h n r e
  | .exc _ _, _, e => by rw [resF] at e; cases e
  | .kl _, _, e => by rw [resF] at e; cases e
theorem resFs_mono {f g : Nat → Option D} (h : ∀ n r, f n = some r → g n = some r) : ∀ (ds rs : List D), resFs f ds = some rs → resFs g ds = some rs
  | [], _, e => e
  | d :: ds, rs, e => by
    rw [resFs] at e ⊢
    cases h1 : resF f d with
    | none => rw [h1] at e; cases e
    | some r =>
      rw [h1] at e
      dsimp only at e
      cases h2 : resFs f ds with
      | none => rw [h2] at e; cases e
      | some rs' =>
        rw [h2] at e
        rw [resF_mono h d r h1, resFs_mono h ds rs' h2]
        exact e
end
/-- what the lists of a store hold stays in a later one -/
theorem resN_later {M M' : MS} (h : ∀ (n : Nat) (ds : List D), M[n]? = some (.lst ds) → M'[n]? = some (.lst ds)) : ∀ (j n : Nat) (r : D), resN M j n = some r → resN M' j n = some r
  | 0, _, _, e => by rw [resN] at e; cases e
  | j + 1, n, r, e => by
    rw [resN] at e ⊢
    cases hM : M[n]? with
    | none => rw [hM] at e; cases e
    | some o =>
      rw [hM] at e
      cases o with
      | lst ds =>
        rw [h n ds hM]
        dsimp only at e ⊢
        cases hs : resFs (resN M j) ds with
        | none => rw [hs] at e; cases e
        | some es =>
          rw [hs] at e
          rw [resFs_mono (resN_later h j) ds es hs]
          exact e
      | _ => cases e
theorem resN_more (M : MS) : ∀ (j n : Nat) (r : D), resN M j n = some r → resN M (j + 1) n = some r
  | 0, _, _, e => by rw [resN] at e; cases e
  | j + 1, n, r, e => by
    rw [resN] at e ⊢
    cases hM : M[n]? with
    | none => rw [hM] at e; cases e
    | some o =>
      rw [hM] at e
      cases o with
      | lst ds =>
        dsimp only at e ⊢
        cases hs : resFs (resN M j) ds with
        | none => rw [hs] at e; cases e
        | some es =>
          rw [hs] at e
          rw [resFs_mono (resN_more M j) ds es hs]
          exact e
      | _ => cases e
theorem resN_le (M : MS) {j j' : Nat} (h : j ≤ j') : ∀ (n : Nat) (r : D), resN M j n = some r → resN M j' n = some r := by
  induction h with
  | refl => exact fun _ _ e => e
  | step _ ih => exact fun n r e => resN_more M _ n r (ih n r e)
theorem okN_more : ∀ (k : Nat) (r : D), okN k r = true → okN (k + 1) r = true
  | 0, _, e => by rw [okN] at e; cases e
  | k + 1, r, e => by
    cases r with
    | tup ds =>
      rw [okN, List.all_eq_true] at e ⊢
      exact fun d hd => okN_more k d (e d hd)
    | lv ds =>
      rw [okN, List.all_eq_true] at e ⊢
      exact fun d hd => okN_more k d (e d hd)
    | non => rfl
    | bool b => rfl
    | int i => rfl
    | str s => rw [okN] at e ⊢; exact e
    | ref n => exact Bool.noConfusion (show false = true from e)
    | exc c => exact Bool.noConfusion (show false = true from e)
    | kl ds => exact Bool.noConfusion (show false = true from e)
theorem okN_le {k k' : Nat} (h : k ≤ k') : ∀ (r : D), okN k r = true → okN k' r = true := by
  induction h with
  | refl => exact fun _ e => e
  | step _ ih => exact fun r e => okN_more _ r (ih r e)
/-- the lists of M stand in M' -/
def Ls (M M' : MS) : Prop := ∀ (n : Nat) (ds : List D), M[n]? = some (.lst ds) → M'[n]? = some (.lst ds)
theorem Ls.refl (M : MS) : Ls M M := fun _ _ e => e
theorem Ls.trans {M M' M'' : MS} (a : Ls M M') (b : Ls M' M'') : Ls M M'' := fun n ds e => b n ds (a n ds e)
theorem Ls.app (M N : MS) : Ls M (M ++ N) := fun n ds e => by rw [List.getElem?_append_left (List.getElem?_eq_some_iff.mp e).1]; exact e
theorem Ls.pre {M M' : MS} (h : M <+: M') : Ls M M' := by obtain ⟨N, rfl⟩ := h; exact .app M N
theorem Th.later {M M' : MS} {j j' k k' : Nat} {d : D} (t : Th M j k d) (h : Ls M M') (hj : j ≤ j' := by omega) (hk : k ≤ k' := by omega) : Th M' j' k' d := by
  obtain ⟨r, h1, h2⟩ := t
  exact ⟨r, resF_mono (fun n r e => resN_le M' hj n r (resN_later h j n r e)) d r h1, okN_le hk r h2⟩
section
variable {M : MS} {j k : Nat} {ds : List D}
theorem Th.non : Th M j (k + 1) .non := ⟨.non, rfl, rfl⟩
theorem Th.bool (b : Bool) : Th M j (k + 1) (.bool b) := ⟨_, rfl, rfl⟩
theorem Th.int (i : Int) : Th M j (k + 1) (.int i) := ⟨_, rfl, rfl⟩
theorem Th.str {s : List Nat} (h : (s.all fun c => decide (c < 1114112)) = true) : Th M j (k + 1) (.str s) := ⟨_, rfl, by rw [okN]; exact h⟩
theorem ths_res : ∀ {ds : List D}, (∀ d ∈ ds, Th M j k d) → ∃ rs, resFs (resN M j) ds = some rs ∧ (rs.all (okN k)) = true
  | [], _ => ⟨[], rfl, rfl⟩
  | d :: ds, h => by
    obtain ⟨r, h1, h2⟩ := h d List.mem_cons_self
    obtain ⟨rs, h3, h4⟩ := ths_res (ds := ds) fun d hd => h d (List.mem_cons_of_mem _ hd)
    exact ⟨r :: rs, by rw [resFs, h1, h3], by rw [List.all_cons, h2, h4]; rfl⟩
theorem Th.tup (h : ∀ d ∈ ds, Th M j k d) : Th M j (k + 1) (.tup ds) := by
  obtain ⟨rs, h1, h2⟩ := ths_res h
  exact ⟨.tup rs, by rw [resF, h1], by rw [okN]; exact h2⟩
theorem Th.ref {n : Nat} (e : M[n]? = some (.lst ds)) (h : ∀ d ∈ ds, Th M j k d) : Th M (j + 1) (k + 1) (.ref n) := by
  obtain ⟨rs, h1, h2⟩ := ths_res h
  exact ⟨.lv rs, by rw [resF, resN, e]; dsimp only; rw [h1], by rw [okN]; exact h2⟩
theorem res_ths : ∀ {ds rs : List D}, resFs (resN M j) ds = some rs → (rs.all (okN k)) = true → ∀ d ∈ ds, Th M j k d
  | [], _, _, _, d, hd => by cases hd
  | e :: ds, rs, h1, h2, d, hd => by
    rw [resFs] at h1
    cases q1 : resF (resN M j) e with
    | none => rw [q1] at h1; cases h1
    | some r =>
      rw [q1] at h1
      dsimp only at h1
      cases q2 : resFs (resN M j) ds with
      | none => rw [q2] at h1; cases h1
      | some rs' =>
        rw [q2] at h1
        cases h1
        rw [List.all_cons, Bool.and_eq_true] at h2
        rcases List.mem_cons.mp hd with e | hd
        · subst e; exact ⟨r, q1, h2.1⟩
        · exact res_ths q2 h2.2 d hd
/-- what a thing may be -/
theorem Th.cases {d : D} (t : Th M j (k + 1) d) : d = .non ∨ (∃ b, d = .bool b) ∨ (∃ i, d = .int i) ∨ (∃ s, d = .str s) ∨ (∃ ds, d = .tup ds ∧ ∀ e ∈ ds, Th M j k e) ∨ (∃ n ds, d = .ref n ∧ M[n]? = some (.lst ds)) := by
  obtain ⟨r, h1, h2⟩ := t
  cases d with
  | non => exact .inl rfl
  | bool b => exact .inr (.inl ⟨_, rfl⟩)
  | int i => exact .inr (.inr (.inl ⟨_, rfl⟩))
  | str s => exact .inr (.inr (.inr (.inl ⟨_, rfl⟩)))
  | tup ds =>
    refine .inr (.inr (.inr (.inr (.inl ⟨ds, rfl, ?_⟩))))
    rw [resF] at h1
    cases q : resFs (resN M j) ds with
    | none => rw [q] at h1; cases h1
    | some rs =>
      rw [q] at h1
      cases h1
      rw [okN] at h2
      exact res_ths q h2
  | lv ds => rw [resF] at h1; cases h1
  | ref n =>
    refine .inr (.inr (.inr (.inr (.inr ⟨n, ?_⟩))))
    rw [resF] at h1
    cases j with
    | zero => rw [resN] at h1; cases h1
    | succ j =>
      rw [resN] at h1
      split at h1
      · rename_i ds e
        exact ⟨ds, rfl, e⟩
      · cases h1
  | exc c => rw [resF] at h1; cases h1
  | kl ds => rw [resF] at h1; cases h1
end
/-! what a thing is, its kind alone -/
def isInt : D → Bool
  | .int _ => true | .bool _ => true | _ => false
def isBool : D → Bool
  | .bool _ => true | _ => false
def isStr : D → Bool
  | .str _ => true | _ => false
def isTup : D → Bool
  | .tup _ => true | _ => false
section
variable {M : MS} {j k : Nat} {d : D} {Q : VQ}
theorem Th.isInt (t : Th M j (k + 1) d) : isI .int d M = some (isInt d) := by
  rcases t.cases with rfl | ⟨b, rfl⟩ | ⟨i, rfl⟩ | ⟨s, rfl⟩ | ⟨ds, rfl, _⟩ | ⟨n, ds, rfl, e⟩ <;> first | rfl | (simp only [isI, e]; rfl)
theorem Th.isBool (t : Th M j (k + 1) d) : isI .bool d M = some (isBool d) := by
  rcases t.cases with rfl | ⟨b, rfl⟩ | ⟨i, rfl⟩ | ⟨s, rfl⟩ | ⟨ds, rfl, _⟩ | ⟨n, ds, rfl, e⟩ <;> first | rfl | (simp only [isI, e]; rfl)
theorem Th.isStr (t : Th M j (k + 1) d) : isI .str d M = some (isStr d) := by
  rcases t.cases with rfl | ⟨b, rfl⟩ | ⟨i, rfl⟩ | ⟨s, rfl⟩ | ⟨ds, rfl, _⟩ | ⟨n, ds, rfl, e⟩ <;> first | rfl | (simp only [isI, e]; rfl)
theorem Th.isTup (t : Th M j (k + 1) d) : isI .tuple d M = some (isTup d) := by
  rcases t.cases with rfl | ⟨b, rfl⟩ | ⟨i, rfl⟩ | ⟨s, rfl⟩ | ⟨ds, rfl, _⟩ | ⟨n, ds, rfl, e⟩ <;> first | rfl | (simp only [isI, e]; rfl)
theorem isTup_of {d : D} (h : Sl.isTup d = true) : ∃ ds, d = .tup ds := by cases d <;> first | exact ⟨_, rfl⟩ | cases h
theorem isStr_of {d : D} (h : Sl.isStr d = true) : ∃ s, d = .str s := by cases d <;> first | exact ⟨_, rfl⟩ | cases h
theorem isInt_of {d : D} (h : Sl.isInt d = true) (h2 : ¬ Sl.isBool d = true) : ∃ i, d = .int i := by cases d <;> first | exact absurd rfl h2 | exact ⟨_, rfl⟩ | cases h
theorem Th.items {M : MS} {j k : Nat} {ds : List D} (t : Th M j (k + 1) (.tup ds)) : ∀ d ∈ ds, Th M j k d := by
  rcases t.cases with e | ⟨_, e⟩ | ⟨_, e⟩ | ⟨_, e⟩ | ⟨ds, e, h⟩ | ⟨_, _, e, _⟩ <;> cases e
  exact h
theorem nt {k : Bool} (h : (!k) = true) : k = false := by cases k <;> first | rfl | cases h
theorem nf {k : Bool} (h : (!k) = false) : k = true := by cases k <;> first | rfl | cases h
theorem len2 {α : Type} {l : List α} (h : (l.length : Int) = 2) : ∃ a b, l = [a, b] := by
  match l, h with
  | [], h => simp at h
  | [a], h => simp at h
  | [a, b], _ => exact ⟨a, b, rfl⟩
  | a :: b :: c :: r, h => rw [List.length_cons, List.length_cons, List.length_cons] at h; omega
theorem len3 {α : Type} {l : List α} (h : (l.length : Int) = 3) : ∃ a b c, l = [a, b, c] := by
  match l, h with
  | [], h => simp at h
  | [a], h => simp at h
  | [a, b], h => simp at h
  | [a, b, c], _ => exact ⟨a, b, c, rfl⟩
  | a :: b :: c :: d :: r, h => rw [List.length_cons, List.length_cons, List.length_cons, List.length_cons] at h; omega
theorem len1 {α : Type} {l : List α} (h : (l.length : Int) = 1) : ∃ a, l = [a] := by
  match l, h with
  | [], h => simp at h
  | [a], _ => exact ⟨a, rfl⟩
  | a :: b :: r, h => rw [List.length_cons, List.length_cons] at h; omega
theorem len0 {α : Type} {l : List α} (h : (l.length : Int) = 0) : l = [] := by
  match l, h with
  | [], _ => rfl
  | a :: r, h => rw [List.length_cons] at h; omega
/-- x == (), x a tuple that may be looked at -/
theorem x_eqNil {ds : List D} {R : Bool → Prop} (t : Th M 6 60 (.tup ds)) (h : R (decide (ds.length = 0))) : cmp2 .eq (.tup ds) (.tup []) M R := by
  obtain ⟨r, h1, h2⟩ := t
  refine x_eqP (fun z => Bool.noConfusion z.1) h1 rfl h2 rfl ?_
  rw [resF] at h1
  cases q : resFs (resN M 6) ds with
  | none => rw [q] at h1; cases h1
  | some rs =>
    rw [q] at h1
    cases h1
    cases ds with
    | nil =>
      cases q
      exact h
    | cons d ds =>
      rw [resFs] at q
      split at q
      · split at q
        · cases q
          exact h
        · cases q
      · cases q
end
/-! ### walks that hold nothing -/
theorem wFor_free {t : LT} {b : Loc → MS → Ends → Prop} {nx : Loc → MS → Prop} {rt : VQ} {ex : Exn → Loc → MS → Prop} (I : List D → Loc → MS → Prop) (hd : ∀ σ M, I [] σ M → nx σ M)
    (step : ∀ (d : D) (r : List D) (σ : Loc) (M : MS) (N : Loc → MS → Prop), I (d :: r) σ M → (∀ σ' M', I r σ' M' → N σ' M') → ∃ σ', asgT t d σ = some σ' ∧ b σ' M ⟨N, rt, ex⟩)
    {ds : List D} {σ : Loc} {M : MS} (h : I ds σ M) : wFor .free t b ⟨nx, rt, ex⟩ ds σ M := by
  refine wFor_inv (h := .free) I (fun σ M h => ⟨trivial, hd σ M h⟩) (fun d r σ M N h hN => ⟨trivial, ?_⟩) ds σ M h
  obtain ⟨σ', h1, h2⟩ := step d r σ M N h hN
  refine ⟨σ', h1, ?_⟩
  have e1 : (fun v M' => Hold.free.ok M' ∧ rt v (Hold.free.fin M')) = rt := by
    funext v M'
    exact propext ⟨fun z => z.2, fun z => ⟨trivial, z⟩⟩
  have e2 : (fun e σ'' M' => Hold.free.ok M' ∧ ex e σ'' (Hold.free.fin M')) = ex := by
    funext e σ'' M'
    exact propext ⟨fun z => z.2, fun z => ⟨trivial, z⟩⟩
  dsimp only
  rw [e1, e2]
  exact h2
theorem rng_drop {a b : Int} {i : Nat} (h : i < (b - a).toNat) : (rng a b).drop i = .int (a + (i : Int)) :: (rng a b).drop (i + 1) := by
  have hlt : i < (rng a b).length := by rw [rng_len]; exact h
  rw [List.drop_eq_getElem_cons hlt]
  congr 1
  simp only [rng, List.getElem_map, List.getElem_range]
theorem wFor_rng {t : LT} {b : Loc → MS → Ends → Prop} {nx : Loc → MS → Prop} {rt : VQ} {ex : Exn → Loc → MS → Prop} {lo hi : Int} (I : Nat → Loc → MS → Prop) (hd : ∀ σ M, I (hi - lo).toNat σ M → nx σ M)
    (step : ∀ (i : Nat) (σ : Loc) (M : MS) (N : Loc → MS → Prop), i < (hi - lo).toNat → I i σ M → (∀ σ' M', I (i + 1) σ' M' → N σ' M') → ∃ σ', asgT t (.int (lo + (i : Int))) σ = some σ' ∧ b σ' M ⟨N, rt, ex⟩)
    {σ : Loc} {M : MS} (h : I 0 σ M) : wFor .free t b ⟨nx, rt, ex⟩ (rng lo hi) σ M := by
  refine wFor_free (fun r σ M => ∃ i, i ≤ (hi - lo).toNat ∧ r = (rng lo hi).drop i ∧ I i σ M) ?_ ?_ ⟨0, Nat.zero_le _, rfl, h⟩
  · rintro σ M ⟨i, h1, h2, h3⟩
    have h4 := congrArg List.length h2
    rw [List.length_drop, rng_len, List.length_nil] at h4
    have e : i = (hi - lo).toNat := by omega
    subst e
    exact hd σ M h3
  · rintro d r σ M N ⟨i, h1, h2, h3⟩ hN
    have h4 := congrArg List.length h2
    rw [List.length_drop, rng_len, List.length_cons] at h4
    have hi' : i < (hi - lo).toNat := by omega
    rw [rng_drop hi'] at h2
    obtain ⟨h5, h6⟩ := List.cons.inj h2
    subst h5
    exact step i σ M N hi' h3 fun σ' M' h => hN σ' M' ⟨i + 1, hi', h6, h⟩
theorem wTurns_rng {t : LT} {σ : Loc} {c e : Loc → MS → VQ → Prop} {Q : VQ} {lo hi : Int} (I : Nat → List D → MS → Prop) (hd : ∀ ys M, I (hi - lo).toNat ys M → Q (.ref M.length) (M ++ [.lst ys]))
    (step : ∀ (i : Nat) (ys : List D) (M : MS) (N : List D → MS → Prop), i < (hi - lo).toNat → I i ys M → (∀ ys' M', I (i + 1) ys' M' → N ys' M') → ∃ σ', asgT t (.int (lo + (i : Int))) σ = some σ' ∧ c σ' M fun b M1 => brn b (e σ' M1 fun y M2 => ys.length < lim ∧ N (ys ++ [y]) M2) (N ys M1))
    {ys : List D} {M : MS} (h : I 0 ys M) : wTurns .free t σ c e Q (rng lo hi) ys M := by
  refine wTurns_inv (h := .free) (fun r ys M => ∃ i, i ≤ (hi - lo).toNat ∧ r = (rng lo hi).drop i ∧ I i ys M) ?_ ?_ _ _ _ ⟨0, Nat.zero_le _, rfl, h⟩
  · rintro ys M ⟨i, h1, h2, h3⟩
    have h4 := congrArg List.length h2
    rw [List.length_drop, rng_len, List.length_nil] at h4
    have e : i = (hi - lo).toNat := by omega
    subst e
    exact ⟨trivial, hd ys M h3⟩
  · rintro d r ys M N ⟨i, h1, h2, h3⟩ hN
    have h4 := congrArg List.length h2
    rw [List.length_drop, rng_len, List.length_cons] at h4
    have hi' : i < (hi - lo).toNat := by omega
    rw [rng_drop hi'] at h2
    obtain ⟨h5, h6⟩ := List.cons.inj h2
    subst h5
    exact ⟨trivial, step i ys M N hi' h3 fun ys' M' h => hN ys' M' ⟨i + 1, hi', h6, h⟩⟩
/-! ### the store grows -/
/-- all objects stand as they were -/
def Gr (M M' : MS) : Prop := ∀ (n : Nat) (o : MO), M[n]? = some o → M'[n]? = some o
theorem Gr.refl (M : MS) : Gr M M := fun _ _ e => e
theorem Gr.trans {M M' M'' : MS} (a : Gr M M') (b : Gr M' M'') : Gr M M'' := fun n o e => b n o (a n o e)
theorem Gr.app (M N : MS) : Gr M (M ++ N) := fun n o e => by rw [List.getElem?_append_left (List.getElem?_eq_some_iff.mp e).1]; exact e
theorem Gr.ls {M M' : MS} (h : Gr M M') : Ls M M' := fun n ds e => h n _ e
theorem Gr.len {M M' : MS} (h : Gr M M') : M.length ≤ M'.length := by
  rcases Nat.lt_or_ge M'.length M.length with c | c
  · have e : M[M'.length]? = some M[M'.length] := List.getElem?_eq_getElem c
    have := (List.getElem?_eq_some_iff.mp (h _ _ e)).1
    omega
  · exact c
theorem Gr.set {M M' : MS} (h : Gr M M') {n : Nat} (hn : M.length ≤ n) (o : MO) : Gr M (M'.set n o) := fun k u e => by
  have hk := (List.getElem?_eq_some_iff.mp e).1
  rw [List.getElem?_set_ne (by omega)]
  exact h k u e
theorem set_other {M : MS} {n k : Nat} {o u : MO} (e : M[k]? = some u) (h : n ≠ k) : (M.set n o)[k]? = some u := by rw [List.getElem?_set_ne h]; exact e
theorem set_same {M : MS} {n : Nat} {o u : MO} (e : M[n]? = some u) : (M.set n o)[n]? = some o := List.getElem?_set_self (List.getElem?_eq_some_iff.mp e).1
/-! ### the store's end; lists of numbers -/
section
variable {M : MS} {n : Nat} {ds es : List D} {i j : Int} {Q : VQ} {d : D}
theorem lst_end (M : MS) (o : MO) : (M ++ [o])[M.length]? = some o := by rw [List.getElem?_append_right (Nat.le_refl _), Nat.sub_self]; rfl
theorem set_end (M : MS) (o o' : MO) : (M ++ [o]).set M.length o' = M ++ [o'] := by rw [List.set_append_right _ _ (Nat.le_refl _), Nat.sub_self]; rfl
theorem Ls.set {M M' : MS} (h : Ls M M') {n : Nat} (hn : M.length ≤ n) (o : MO) : Ls M (M'.set n o) := fun k ds e => by
  have hk := (List.getElem?_eq_some_iff.mp e).1
  rw [List.getElem?_set_ne (by omega)]
  exact h k ds e
/-- the cell of a list of numbers -/
def ce (cs : List Int) (i : Int) : Int := cs.getD i.toNat 0
theorem ce_mem {cs : List Int} {p : Int → Prop} (h : ∀ c ∈ cs, p c) (h0 : p 0) (i : Int) : p (ce cs i) := by
  unfold ce
  rw [List.getD_eq_getElem?_getD]
  cases q : cs[i.toNat]? with
  | none => exact h0
  | some c => exact h c (List.mem_of_getElem? q)
theorem atI_in {α : Type} {xs : List α} {i : Int} (h0 : 0 ≤ i) (h1 : i < xs.length) : atI xs i = xs[i.toNat]? := by
  obtain ⟨k, rfl⟩ := Int.eq_ofNat_of_zero_le h0
  rw [atI_nat]
  rfl
theorem x_ixC {cs : List Int} (hM : M[n]? = some (.lst (cs.map .int))) (h0 : 0 ≤ i) (h1 : i < cs.length) (q : Q (.int (ce cs i)) M) : idx2 (.ref n) (.int i) M Q := by
  refine x_ixL hM ?_ q
  rw [atI_in h0 (by rw [List.length_map]; exact h1), List.getElem?_map]
  unfold ce
  have h2 : i.toNat < cs.length := by omega
  rw [List.getD_eq_getElem?_getD, List.getElem?_eq_getElem h2]
  rfl
/-- any of a list's -/
theorem x_ixAny (hM : M[n]? = some (.lst ds)) (h0 : 0 ≤ i) (h1 : i < ds.length) (h : ∀ d ∈ ds, Q d M) : idx2 (.ref n) (.int i) M Q := by
  have h2 : i.toNat < ds.length := by omega
  refine x_ixL (d := ds[i.toNat]) hM ?_ (h _ (List.getElem_mem h2))
  rw [atI_in h0 h1, List.getElem?_eq_getElem h2]
theorem all_nil {p : D → Prop} : ∀ d ∈ ([] : List D), p d := fun _ h => by cases h
theorem all_cons {p : D → Prop} (h : p d) (hs : ∀ d ∈ ds, p d) : ∀ e ∈ d :: ds, p e := fun e he => by
  rcases List.mem_cons.mp he with rfl | he
  · exact h
  · exact hs e he
theorem all_app {p : D → Prop} (h : ∀ d ∈ ds, p d) (hs : ∀ d ∈ es, p d) : ∀ e ∈ ds ++ es, p e := fun e he => by
  rcases List.mem_append.mp he with he | he
  · exact h e he
  · exact hs e he
theorem all_take {p : D → Prop} (h : ∀ d ∈ ds, p d) (k : Nat) : ∀ e ∈ ds.take k, p e := fun e he => h e (List.mem_of_mem_take he)
theorem all_drop {p : D → Prop} (h : ∀ d ∈ ds, p d) (k : Nat) : ∀ e ∈ ds.drop k, p e := fun e he => h e (List.mem_of_mem_drop he)
theorem x_rcvA {p : Prop} (hM : M[n]? = some (.lst ds)) (h : p) : rcv .append (.ref n) M ∧ p := ⟨⟨n, ds, rfl, hM⟩, h⟩
theorem x_rcvP {p : Prop} (hM : M[n]? = some (.lst ds)) (h : p) : rcv .pop (.ref n) M ∧ p := ⟨⟨n, ds, rfl, hM⟩, h⟩
theorem x_rcvE {p : Prop} (hM : M[n]? = some (.lst ds)) (h : p) : rcv .extend (.ref n) M ∧ p := ⟨⟨n, ds, rfl, hM⟩, h⟩
theorem x_rcvI {p : Prop} (hM : M[n]? = some (.lst ds)) (h : p) : rcv .insert (.ref n) M ∧ p := ⟨⟨n, ds, rfl, hM⟩, h⟩
theorem x_rcvC {p : Prop} (hM : M[n]? = some (.lst ds)) (h : p) : rcv .clear (.ref n) M ∧ p := ⟨⟨n, ds, rfl, hM⟩, h⟩
/-! slices -/
theorem part1 {i : Int} (h0 : 0 ≤ i) : partOf [.int i] = some (some i.toNat) := by
  show (if 0 ≤ i then some (some i.toNat) else none) = _
  rw [if_pos h0]
theorem x_part0 {p : Prop} (h : p) : (partOf []).isSome = true ∧ p := ⟨rfl, h⟩
theorem x_part1 {p : Prop} (h0 : 0 ≤ i) (h : p) : (partOf [.int i]).isSome = true ∧ p := ⟨by rw [part1 h0]; rfl, h⟩
theorem x_slH (hM : M[n]? = some (.lst ds)) (h0 : 0 ≤ i) (h : Q (.ref M.length) (M ++ [.lst (ds.take i.toNat)])) : slice2 (.ref n) [] [.int i] M Q := by
  simp only [slice2, partOf, if_pos h0, hM, cutL, Option.getD, List.drop_zero, Nat.sub_zero]
  exact h
theorem x_slL (hM : M[n]? = some (.lst ds)) (h0 : 0 ≤ i) (h : Q (.ref M.length) (M ++ [.lst (ds.drop i.toNat)])) : slice2 (.ref n) [.int i] [] M Q := by
  simp only [slice2, partOf, if_pos h0, hM, cutL, Option.getD]
  rw [List.take_of_length_le (by rw [List.length_drop]; exact Nat.le_refl _)]
  exact h
theorem x_slLH (hM : M[n]? = some (.lst ds)) (h0 : 0 ≤ i) (h1 : 0 ≤ j) (h : Q (.ref M.length) (M ++ [.lst ((ds.drop i.toNat).take (j.toNat - i.toNat))])) : slice2 (.ref n) [.int i] [.int j] M Q := by
  simp only [slice2, partOf, if_pos h0, if_pos h1, hM, cutL, Option.getD]
  exact h
theorem x_slHT (h0 : 0 ≤ i) (h : Q (.tup (ds.take i.toNat)) M) : slice2 (.tup ds) [] [.int i] M Q := by
  simp only [slice2, partOf, if_pos h0, cutL, Option.getD, List.drop_zero, Nat.sub_zero]
  exact h
theorem x_slLT (h0 : 0 ≤ i) (h : Q (.tup (ds.drop i.toNat)) M) : slice2 (.tup ds) [.int i] [] M Q := by
  simp only [slice2, partOf, if_pos h0, cutL, Option.getD]
  rw [List.take_of_length_le (by rw [List.length_drop]; exact Nat.le_refl _)]
  exact h
theorem x_tupL (hM : M[n]? = some (.lst ds)) (h : Q (.tup ds) M) : bi2 .tuple [.ref n] M Q := by simp only [bi2, hM]; exact h
theorem x_listT (h : Q (.ref M.length) (M ++ [.lst ds])) : bi2 .list [.tup ds] M Q := h
theorem x_listL (hM : M[n]? = some (.lst ds)) (h : Q (.ref M.length) (M ++ [.lst ds])) : bi2 .list [.ref n] M Q := by simp only [bi2, hM]; exact h
theorem x_catT {es : List D} (hl : ds.length + es.length ≤ lim) (h : Q (.tup (ds ++ es)) M) : bin2 .add (.tup ds) (.tup es) M Q := ⟨hl, h⟩
theorem x_intB {b : Bool} (h : Q (.int (if b then 1 else 0)) M) : bi2 .int [.bool b] M Q := h
/-! lists and dicts that change -/
theorem x_pop (hM : M[n]? = some (.lst (ds ++ [d]))) (h : Q d (M.set n (.lst ds))) : meth2 .pop (.ref n) [] M Q := by
  simp only [meth2, hM]
  rw [show (ds ++ [d])[(ds ++ [d]).length - 1]? = some d by rw [List.length_append, show ds.length + [d].length - 1 = ds.length from rfl, List.getElem?_append_right (Nat.le_refl _), Nat.sub_self]; rfl, List.dropLast_concat]
  exact h
theorem x_extend {m : Nat} (hM : M[n]? = some (.lst ds)) (hm : M[m]? = some (.lst es)) (hl : ds.length + es.length ≤ lim) (h : Q .non (M.set n (.lst (ds ++ es)))) : meth2 .extend (.ref n) [.ref m] M Q := by
  simp only [meth2, hM, hm]
  exact ⟨hl, h⟩
theorem x_inD {kvs : List (Int × D)} {R : Bool → Prop} (hM : M[n]? = some (.dict kvs)) (h : R (dget kvs i).isSome) : cmp2 .isin (.int i) (.ref n) M R := by
  simp only [cmp2, inV, hM]
  exact h
theorem x_notinD {kvs : List (Int × D)} {R : Bool → Prop} (hM : M[n]? = some (.dict kvs)) (h : R (!(dget kvs i).isSome)) : cmp2 .notin (.int i) (.ref n) M R := by
  simp only [cmp2, inV, hM]
  exact h
def put (x y d : D) (M : MS) (F : MS → Prop) : Prop := match x, y with
  | .ref n, .int k => match M[n]? with
    | some (.lst ds) => match ixN ds.length k with
      | some j => F (M.set n (.lst (ds.set j d)))
      | none => False
    | some (.dict kvs) => kvs.length < lim ∧ F (M.set n (.dict (dput kvs k d)))
    | _ => False
  | _, _ => False
theorem x_setIx {O : Oracle} {o i e : LE} {σ : Loc} {nx : Loc → MS → Prop} {rt : VQ} {ex : Exn → Loc → MS → Prop} (h : wE O e σ M (fun d M1 => wE O o σ M1 (fun x M2 => wE O i σ M2 (fun y M3 => put x y d M3 fun M4 => nx σ M4) fun c M' => ex c σ M') fun c M' => ex c σ M') fun c M' => ex c σ M') :
    wS O (.setIx o i e) σ M ⟨nx, rt, ex⟩ := by
  have key : ∀ x y d M3, put x y d M3 (fun M4 => nx σ M4) = (match x, y with
    | .ref n, .int k => match M3[n]? with
      | some (.lst ds) => match ixN ds.length k with
        | some j => nx σ (M3.set n (.lst (ds.set j d)))
        | none => False
      | some (.dict kvs) => kvs.length < lim ∧ nx σ (M3.set n (.dict (dput kvs k d)))
      | _ => False
    | _, _ => False) := fun _ _ _ _ => rfl
  rw [wS]
  exact h
theorem x_putD {kvs : List (Int × D)} {F : MS → Prop} (hM : M[n]? = some (.dict kvs)) (hl : kvs.length < lim) (h : F (M.set n (.dict (dput kvs i d)))) : put (.ref n) (.int i) d M F := by
  simp only [put, hM]
  exact ⟨hl, h⟩
theorem x_sortD {kvs : List (Int × D)} (hM : M[n]? = some (.dict kvs)) (h : ∀ ns' : List Int, ns'.Perm (kvs.map (·.1)) → ns'.Pairwise (· ≤ ·) → Q (.ref M.length) (M ++ [.lst (ns'.map .int)])) : bi2 .sorted [.ref n] M Q := by
  simp only [bi2, hM]
  exact h
theorem intsOf_map (l : List Int) : intsOf (l.map .int) = some l := by
  induction l with
  | nil => rfl
  | cons x r ih => rw [List.map_cons, intsOf, ih]; rfl
theorem x_notinL {l : List Int} {R : Bool → Prop} (hM : M[n]? = some (.lst (l.map .int))) (h : R (!decide (i ∈ l))) : cmp2 .notin (.int i) (.ref n) M R := by
  simp only [cmp2, inV, hM, inSeq, intsOf_map]
  exact h
theorem x_inL {l : List Int} {R : Bool → Prop} (hM : M[n]? = some (.lst (l.map .int))) (h : R (decide (i ∈ l))) : cmp2 .isin (.int i) (.ref n) M R := by
  simp only [cmp2, inV, hM, inSeq, intsOf_map]
  exact h
theorem x_putL {F : MS → Prop} (hM : M[n]? = some (.lst ds)) (h0 : 0 ≤ i) (h1 : i < ds.length) (h : F (M.set n (.lst (ds.set i.toNat d)))) : put (.ref n) (.int i) d M F := by
  have e : ixN ds.length i = some i.toNat := by unfold ixN; rw [if_pos h0, if_pos (by omega)]
  simp only [put, hM, e]
  exact h
theorem x_min (h : Q (.int (if j < i then j else i)) M) : bi2 .min [.int i, .int j] M Q := h
theorem x_max (h : Q (.int (if j > i then j else i)) M) : bi2 .max [.int i, .int j] M Q := h
theorem x_ixLast {d : D} (hM : M[n]? = some (.lst (ds ++ [d]))) (h : Q d M) : idx2 (.ref n) (.int (-1)) M Q := by
  refine x_ixL hM ?_ h
  unfold atI ixN
  rw [if_neg (by decide), if_pos (by rw [List.length_append, show [d].length = 1 from rfl]; omega)]
  show (ds ++ [d])[(-1 + ((ds ++ [d]).length : Int)).toNat]? = some d
  rw [List.length_append, show (-1 + ((ds.length + [d].length : Nat) : Int)).toNat = ds.length by (have : [d].length = 1 := rfl); omega, List.getElem?_append_right (Nat.le_refl _), Nat.sub_self]
  rfl
theorem x_insert {y : D} (hM : M[n]? = some (.lst ds)) (hl : ds.length < lim) (h0 : 0 ≤ i) (h1 : i < 2 ^ 60) (h : Q .non (M.set n (.lst (ds.take i.toNat ++ [y] ++ ds.drop i.toNat)))) : meth2 .insert (.ref n) [.int i, y] M Q := by
  simp only [meth2, hM]
  exact ⟨hl, h0, h1, h⟩
theorem x_popI (hM : M[n]? = some (.lst ds)) (hl : ds.length ≤ lim) (h0 : 0 ≤ i) (h1 : ds[i.toNat]? = some d) (h : Q d (M.set n (.lst (ds.eraseIdx i.toNat)))) : meth2 .pop (.ref n) [.int i] M Q := by
  simp only [meth2, hM, if_pos h0, h1]
  exact ⟨hl, h⟩
theorem isI_list (hM : M[n]? = some (.lst ds)) : isI .list (.ref n) M = some true := by simp only [isI, hM]
theorem resFs_ints (f : Nat → Option D) (l : List Int) : resFs f (l.map .int) = some (l.map .int) := by
  induction l with
  | nil => rfl
  | cons x r ih => rw [List.map_cons, resFs, ih]; rfl
theorem eqvs_ints : ∀ (l l' : List Int), eqvs (l.map .int) (l'.map .int) = decide (l = l')
  | [], [] => rfl
  | [], _ :: _ => rfl
  | _ :: _, [] => rfl
  | a :: r, b :: r' => by
    rw [List.map_cons, List.map_cons, eqvs, eqvs_ints r r', eqv]
    by_cases h : a = b
    · subst h; simp
    · simp [h]
theorem okN_ints {k : Nat} (l : List Int) : okN (k + 2) (.lv (l.map .int)) = true := by
  rw [okN, List.all_eq_true]
  intro d hd
  obtain ⟨i, _, rfl⟩ := List.mem_map.mp hd
  rfl
theorem res_ints {l : List Int} (hM : M[n]? = some (.lst (l.map .int))) : res M (.ref n) = some (.lv (l.map .int)) := by
  unfold res
  rw [resF, resN, hM]
  dsimp only
  rw [resFs_ints]
theorem x_eqInts {m : Nat} {l l' : List Int} {R : Bool → Prop} (h1 : M[n]? = some (.lst (l.map .int))) (h2 : M[m]? = some (.lst (l'.map .int))) (h : R (decide (l = l'))) : cmp2 .eq (.ref n) (.ref m) M R := by
  refine x_eqP (fun z => Bool.noConfusion z.1) (res_ints h1) (res_ints h2) (okN_ints l) (okN_ints l') ?_
  rw [eqv, eqvs_ints]
  exact h
theorem x_neInts {m : Nat} {l l' : List Int} {R : Bool → Prop} (h1 : M[n]? = some (.lst (l.map .int))) (h2 : M[m]? = some (.lst (l'.map .int))) (h : R (!decide (l = l'))) : cmp2 .ne (.ref n) (.ref m) M R := by
  refine x_neP (fun z => Bool.noConfusion z.1) (res_ints h1) (res_ints h2) (okN_ints l) (okN_ints l') ?_
  rw [eqv, eqvs_ints]
  exact h
/-! a tuple's names -/
def unp (is : List Nat) (d : D) (σ : Loc) (F : Loc → Prop) : Prop := match asgT (.tup is) d σ with
  | some σ' => F σ'
  | none => False
theorem x_asgU {O : Oracle} {is : List Nat} {e : LE} {σ : Loc} {nx : Loc → MS → Prop} {rt : VQ} {ex : Exn → Loc → MS → Prop} (h : wE O e σ M (fun d M1 => unp is d σ fun σ' => nx σ' M1) fun c M' => ex c σ M') : wS O (.asg (.tup is) e) σ M ⟨nx, rt, ex⟩ := by rw [wS]; exact h
theorem x_unp {is : List Nat} {σ σ' : Loc} {F : Loc → Prop} (h0 : setAll σ is ds = some σ') (h : F σ') : unp is (.tup ds) σ F := by
  simp only [unp, asgT, h0]
  exact h
end
theorem atI_zero {α : Type} {x : α} {r : List α} : atI (x :: r) 0 = some x := atI_nat (x :: r) 0
/-! ### rows, looked at -/
def BND : Int := 1000000000000000000000000000000
def betw : D → Int → Int → Bool
  | .int i, lo, hi => decide (lo ≤ i) && decide (i ≤ hi)
  | _, _, _ => false
def intOf : D → Int
  | .int i => i
  | _ => 0
def powB : Int → List D → Bool
  | _, [] => true
  | last, .tup [a, b] :: r => betw a (last + 1) BND && betw b 1 100 && powB (intOf a) r
  | _, _ => false
def powsB : D → Bool
  | .tup ps => !decide (ps.length = 0) && powB 1 ps
  | _ => false
def sFirst : List Nat := [102, 105, 114, 115, 116]
def sPrime : List Nat := [112, 114, 105, 109, 101]
def sSplit : List Nat := [115, 112, 108, 105, 116]
def sPower : List Nat := [112, 111, 119, 101, 114]
def sRoot : List Nat := [114, 111, 111, 116]
def f2 (fs : List D) (p : D → D → Bool) : Bool := match fs with
  | [a, b] => p a b
  | _ => false
def f1 (fs : List D) (p : D → Bool) : Bool := match fs with
  | [a] => p a
  | _ => false
theorem f2_no {fs : List D} {p : D → D → Bool} (h : ¬ (fs.length : Int) = 2) : f2 fs p = false := by
  match fs, h with
  | [], _ => rfl
  | [a], _ => rfl
  | [a, b], h => exact absurd rfl h
  | a :: b :: c :: r, _ => rfl
theorem f1_no {fs : List D} {p : D → Bool} (h : ¬ (fs.length : Int) = 1) : f1 fs p = false := by
  match fs, h with
  | [], _ => rfl
  | [a], h => exact absurd rfl h
  | a :: b :: r, _ => rfl
def factsB (w : List Nat) (fs : List D) : Bool :=
  if w = sFirst then decide (fs.length = 0)
  else if w = sPrime then f2 fs fun a b => betw a 1 BND && powsB b
  else if w = sSplit then f2 fs fun a b => betw a 2 BND && betw b 2 BND
  else if w = sPower ∨ w = sRoot then f1 fs fun a => betw a 1 BND
  else false
def f3 (fs : List D) (p : D → D → D → Bool) : Bool := match fs with
  | [a, b, c] => p a b c
  | _ => false
theorem f3_no {fs : List D} {p : D → D → D → Bool} (h : ¬ (fs.length : Int) = 3) : f3 fs p = false := by
  match fs, h with
  | [], _ => rfl
  | [a], _ => rfl
  | [a, b], _ => rfl
  | [a, b, c], h => exact absurd rfl h
  | a :: b :: c :: d :: r, _ => rfl
def sfB : D → D → Bool
  | .str w, .tup fs => factsB w fs
  | _, _ => false
def rowB : D → Bool
  | .tup ds => f3 ds fun n w f => betw n 2 BND && sfB w f
  | _ => false
theorem betw_int {d : D} {lo hi : Int} (h : betw d lo hi = true) : ∃ i, d = .int i ∧ lo ≤ i ∧ i ≤ hi := by
  cases d with
  | int i =>
    rw [betw, Bool.and_eq_true] at h
    exact ⟨i, rfl, of_decide_eq_true h.1, of_decide_eq_true h.2⟩
  | _ => cases h
end Sl
/-! Num: what is said of numbers, in plain words. -/
namespace Sl
/-- no number from 2 on below it divides it -/
def Pri (n : Int) : Prop := 2 ≤ n ∧ ∀ k : Int, 2 ≤ k → k < n → ¬ n % k = 0
/-- the pairs' product -/
def prodP : List (Int × Int) → Int
  | [] => 1
  | (q, t) :: r => q ^ t.toNat * prodP r
/-- rising pairs of primes and times, each number's product -/
structure Fac (n : Int) (ps : List (Int × Int)) : Prop where
  pri : ∀ p ∈ ps, Pri p.1
  pos : ∀ p ∈ ps, 1 ≤ p.2 ∧ p.2 ≤ n
  dvd : ∀ p ∈ ps, n % p.1 = 0
  up : ps.Pairwise fun a b => a.1 < b.1
  prod : prodP ps = n
/-- the base comes round, and not before -/
def Rnd (n b : Int) (ps : List (Int × Int)) : Prop := b ^ (n - 1).toNat % n = 1 ∧ ∀ p ∈ ps, ¬ b ^ ((n - 1) / p.1).toNat % n = 1
/-! small primes, by reckoning -/
def priB (n : Nat) : Bool := decide (2 ≤ n) && (List.range n).all fun k => decide (k < 2) || decide (¬ n % k = 0)
def rootB (n g : Nat) : Bool := decide (g ^ (n - 1) % n = 1) && (List.range n).all fun q => !priB q || !decide ((n - 1) % q = 0) || decide (¬ g ^ ((n - 1) / q) % n = 1)
def leastRoot (n : Nat) : Option Nat := (List.range n).find? fun g => decide (1 ≤ g) && rootB n g
theorem roots402 : ((List.range 402).all fun n => !priB n || (leastRoot n).isSome) = true := by decide +kernel
theorem priB_of {n : Nat} (h : Pri (n : Int)) : priB n = true := by
  obtain ⟨h2, hk⟩ := h
  unfold priB
  rw [Bool.and_eq_true, List.all_eq_true]
  refine ⟨decide_eq_true (by omega), fun k hk' => ?_⟩
  rw [List.mem_range] at hk'
  rw [Bool.or_eq_true]
  by_cases c : k < 2
  · exact .inl (decide_eq_true c)
  · refine .inr (decide_eq_true fun e => hk k (by omega) (by omega) ?_)
    rw [← Int.natCast_emod, e]
    rfl
theorem pow_cast (g k n : Nat) : ((g : Int) ^ k % (n : Int)) = ((g ^ k % n : Nat) : Int) := by rw [Int.natCast_emod, Int.natCast_pow]
theorem dvd_le {n q : Int} (h : n % q = 0) (hn : 0 < n) : q ≤ n := Int.le_of_dvd hn (Int.dvd_of_emod_eq_zero h)
/-- a base that comes round for no part -/
theorem root_of {p : Int} (hp : Pri p) (h : p < 402) : ∃ g : Int, 1 ≤ g ∧ g < p ∧ g ^ (p - 1).toNat % p = 1 ∧ ∀ q : Int, Pri q → (p - 1) % q = 0 → ¬ g ^ ((p - 1) / q).toNat % p = 1 := by
  obtain ⟨n, rfl⟩ := Int.eq_ofNat_of_zero_le (show 0 ≤ p by have := hp.1; omega)
  have hn : n ∈ List.range 402 := List.mem_range.mpr (by omega)
  have h1 := List.all_eq_true.mp roots402 n hn
  rw [priB_of hp, Bool.not_true, Bool.false_or] at h1
  obtain ⟨g, hg⟩ := Option.isSome_iff_exists.mp h1
  have hg1 := List.find?_some hg
  have hg2 := List.mem_range.mp (List.mem_of_find?_eq_some hg)
  rw [Bool.and_eq_true] at hg1
  obtain ⟨g1, g2⟩ := hg1
  unfold rootB at g2
  rw [Bool.and_eq_true, List.all_eq_true] at g2
  have e1 : ((n : Int) - 1).toNat = n - 1 := by omega
  refine ⟨g, by have := of_decide_eq_true g1; omega, by omega, ?_, fun q hq hd => ?_⟩
  · rw [e1, pow_cast, of_decide_eq_true g2.1]
    rfl
  · obtain ⟨m, rfl⟩ := Int.eq_ofNat_of_zero_le (show 0 ≤ q by have := hq.1; omega)
    have n2 := hp.1
    have m2 := hq.1
    have hm := dvd_le hd (by omega)
    have e0 : ((n : Int) - 1) = ((n - 1 : Nat) : Int) := by omega
    rw [e0] at hd ⊢
    rw [← Int.natCast_emod] at hd
    have h3 := g2.2 m (List.mem_range.mpr (by omega))
    rw [priB_of hq, Bool.not_true, Bool.false_or, decide_eq_true (show (n - 1) % m = 0 by omega), Bool.not_true, Bool.false_or] at h3
    rw [← Int.natCast_ediv, Int.toNat_natCast, pow_cast]
    intro e
    exact of_decide_eq_true h3 (by omega)
theorem prodP_append : ∀ (a b : List (Int × Int)), prodP (a ++ b) = prodP a * prodP b
  | [], b => by rw [List.nil_append, prodP, Int.one_mul]
  | (q, t) :: r, b => by rw [List.cons_append, prodP, prodP, prodP_append r b, Int.mul_assoc]
theorem Fac.ne {n : Int} {ps : List (Int × Int)} (h : Fac n ps) (hn : 2 ≤ n) : ps ≠ [] := by
  intro e
  subst e
  have := h.prod
  rw [prodP] at this
  omega
/-- the number that bits write, the high ones first -/
def hv : Nat → List Int → Nat
  | a, [] => a
  | a, x :: r => hv (2 * a + x.toNat) r
def pairD (x : Int × Int) : D := .tup [.int x.1, .int x.2]
/-- the four great primes, a base that comes round, what one less is made of -/
def bigs : List (Int × Int × List (Int × Int)) :=
  [(65537, 3, [(2, 16)]), (998244353, 3, [(2, 23), (7, 1), (17, 1)]), (2013265921, 31, [(2, 27), (3, 1), (5, 1)]), (4179340454199820289, 3, [(2, 57), (29, 1)])]
/-- a row as the laws make them: its number, the row -/
inductive GR : Int → D → Prop
  | first : GR 2 (.tup [.int 2, .str sFirst, .tup []])
  | prime {p b : Int} {ps : List (Int × Int)} : Pri p → 3 ≤ p → p < 402 → 1 ≤ b → b < p → Fac (p - 1) ps → Rnd p b ps → GR p (.tup [.int p, .str sPrime, .tup [.int b, .tup (ps.map pairD)]])
  | big {p b : Int} {ps : List (Int × Int)} {e : Nat} : (p, b, ps) ∈ bigs → e ∈ [1, 11, 13, 19, 23] → GR p (.tup [.int p, .str sPrime, .tup [.int (b ^ e % p), .tup (ps.map pairD)]])
  | split {n a c : Int} : 2 ≤ a → 2 ≤ c → a * c = n → n ≤ 10 ^ 30 - 1000 → GR n (.tup [.int n, .str sSplit, .tup [.int a, .int c]])
  | power {n a c b : Int} : 2 ≤ a → 2 ≤ c → a * c = n → n ≤ 10 ^ 30 - 1000 → 1 ≤ b → b < n → ¬ b ^ (n - 1).toNat % n = 1 → GR n (.tup [.int n, .str sPower, .tup [.int b]])
  | root {n a c b : Int} : 2 ≤ a → 2 ≤ c → a * c = n → n ≤ 10 ^ 30 - 1000 → 1 < b → b < n - 1 → b * b % n = 1 → GR n (.tup [.int n, .str sRoot, .tup [.int b]])
theorem rng_mem {a b : Int} {d : D} : d ∈ rng a b ↔ ∃ i : Int, d = .int i ∧ a ≤ i ∧ i < b := by
  unfold rng
  rw [List.mem_map]
  constructor
  · rintro ⟨k, hk, rfl⟩
    rw [List.mem_range] at hk
    exact ⟨_, rfl, by omega, by omega⟩
  · rintro ⟨i, rfl, h1, h2⟩
    exact ⟨(i - a).toNat, List.mem_range.mpr (by omega), by congr 1; omega⟩
theorem not_pri {n : Int} (h2 : 2 ≤ n) (h : ¬ Pri n) : ∃ a : Int, 2 ≤ a ∧ a < n ∧ n % a = 0 :=
  Classical.byContradiction fun z => h ⟨h2, fun k k0 k1 hk => z ⟨k, k0, k1, hk⟩⟩
/-- a divisor as a base does not come round -/
theorem part_pow {n a : Int} (h2 : 2 ≤ a) (h : n % a = 0) {k : Nat} (hk : 1 ≤ k) : ¬ a ^ k % n = 1 := by
  intro e
  obtain ⟨j, rfl⟩ : ∃ j, k = j + 1 := ⟨k - 1, by omega⟩
  have d1 : a ∣ a ^ (j + 1) := by rw [Int.pow_succ]; exact Int.dvd_mul_left _ _
  have d2 : a ∣ a ^ (j + 1) % n := by
    have d3 : a ∣ n := Int.dvd_of_emod_eq_zero h
    rw [Int.emod_def]
    exact Int.dvd_sub d1 (Int.dvd_mul_of_dvd_left d3)
  rw [e] at d2
  have := Int.le_of_dvd (by decide) d2
  omega
theorem mul_of_dvd {n a : Int} (h2 : 2 ≤ a) (h1 : a < n) (h : n % a = 0) : 2 ≤ n / a ∧ a * (n / a) = n := by
  obtain ⟨c, hc⟩ := Int.dvd_of_emod_eq_zero h
  have e : n / a = c := by rw [hc]; exact Int.mul_ediv_cancel_left c (by omega)
  rw [e]
  refine ⟨?_, hc.symm⟩
  rcases Int.lt_or_le c 2 with k | k
  · have : a * c ≤ a * 1 := Int.mul_le_mul_of_nonneg_left (by omega) (by omega)
    omega
  · exact k
/-! ### what a row needs; dicts -/
def fstI : D → Int
  | .tup (.int q :: _) => q
  | _ => 0
def needs : D → List Int
  | .tup [_, .str w, .tup [_, .tup ps]] => if w = sPrime then ps.map fstI else []
  | _ => []
theorem needs_prime {n b : Int} {ps : List (Int × Int)} : needs (.tup [.int n, .str sPrime, .tup [.int b, .tup (ps.map pairD)]]) = ps.map (·.1) := by
  show (if sPrime = sPrime then (ps.map pairD).map fstI else []) = _
  rw [if_pos rfl, List.map_map]
  rfl
theorem dget_none {kvs : List (Int × D)} {k : Int} : dget kvs k = none ↔ ∀ p ∈ kvs, p.1 ≠ k := by
  unfold dget
  rw [Option.map_eq_none_iff, List.find?_eq_none]
  constructor
  · intro h p hp e
    exact h p hp (decide_eq_true e)
  · intro h p hp e
    exact h p hp (of_decide_eq_true e)
theorem dget_mem {kvs : List (Int × D)} {k : Int} {d : D} (h : dget kvs k = some d) : (k, d) ∈ kvs := by
  unfold dget at h
  rw [Option.map_eq_some_iff] at h
  obtain ⟨p, h1, rfl⟩ := h
  have h2 := List.find?_some h1
  have h2 : p.1 = k := of_decide_eq_true h2
  subst h2
  exact List.mem_of_find?_eq_some h1
theorem dput_new {kvs : List (Int × D)} {k : Int} {d : D} (h : dget kvs k = none) : dput kvs k d = kvs ++ [(k, d)] := by
  unfold dput
  rw [if_neg]
  intro z
  rw [List.any_eq_true] at z
  obtain ⟨p, hp, e⟩ := z
  exact dget_none.mp h p hp (of_decide_eq_true e)
theorem dget_app {kvs : List (Int × D)} {k j : Int} {d : D} (h : dget kvs k = none) : dget (kvs ++ [(k, d)]) j = if j = k then some d else dget kvs j := by
  unfold dget
  rw [List.find?_append]
  by_cases e : j = k
  · subst e
    unfold dget at h
    rw [Option.map_eq_none_iff] at h
    rw [h, if_pos rfl]
    simp
  · rw [if_neg e, List.find?_cons_of_neg (by simpa using fun z => e z.symm), List.find?_nil, Option.or_none]
theorem dget_in {kvs : List (Int × D)} {k : Int} (h : k ∈ kvs.map (·.1)) : ∃ d, dget kvs k = some d ∧ (k, d) ∈ kvs := by
  cases q : dget kvs k with
  | some d => exact ⟨d, rfl, dget_mem q⟩
  | none =>
    obtain ⟨p, hp, e⟩ := List.mem_map.mp h
    exact absurd e (dget_none.mp q p hp)
/-- the small numbers that have no row yet -/
def freeN (src : List Int) (kvs : List (Int × D)) : Nat := ((src ++ (List.range 200).map Int.ofNat).filter fun k => (dget kvs k).isNone).length
theorem filter_less {α : Type} (p q : α → Bool) : ∀ l : List α, (∀ x ∈ l, q x = true → p x = true) → (∃ x ∈ l, p x = true ∧ q x = false) → (l.filter q).length + 1 ≤ (l.filter p).length
  | [], _, h => by obtain ⟨x, hx, _⟩ := h; cases hx
  | a :: r, h1, h2 => by
    have le : (r.filter q).length ≤ (r.filter p).length := by
      clear h2
      induction r with
      | nil => exact Nat.le_refl _
      | cons b r ih =>
        have ih := ih fun x hx => h1 x (by rcases List.mem_cons.mp hx with rfl | hx <;> simp_all)
        cases hq : q b with
        | true => rw [List.filter_cons_of_pos hq, List.filter_cons_of_pos (h1 b (by simp) hq), List.length_cons, List.length_cons]; omega
        | false =>
          rw [List.filter_cons_of_neg (by rw [hq]; exact Bool.false_ne_true)]
          cases hp : p b with
          | true => rw [List.filter_cons_of_pos hp, List.length_cons]; omega
          | false => rw [List.filter_cons_of_neg (by rw [hp]; exact Bool.false_ne_true)]; exact ih
    obtain ⟨x, hx, hp, hq⟩ := h2
    rcases List.mem_cons.mp hx with rfl | hx
    · rw [List.filter_cons_of_pos hp, List.filter_cons_of_neg (by rw [hq]; exact Bool.false_ne_true), List.length_cons]
      omega
    · have ih := filter_less p q r (fun x hx => h1 x (List.mem_cons_of_mem _ hx)) ⟨x, hx, hp, hq⟩
      cases hq2 : q a with
      | true => rw [List.filter_cons_of_pos hq2, List.filter_cons_of_pos (h1 a List.mem_cons_self hq2), List.length_cons, List.length_cons]; omega
      | false =>
        rw [List.filter_cons_of_neg (by rw [hq2]; exact Bool.false_ne_true)]
        cases hp2 : p a with
        | true => rw [List.filter_cons_of_pos hp2, List.length_cons]; omega
        | false => rw [List.filter_cons_of_neg (by rw [hp2]; exact Bool.false_ne_true)]; exact ih
theorem freeN_app {src : List Int} {kvs : List (Int × D)} {k : Int} {d : D} (h : dget kvs k = none) (hk : k ∈ src ∨ 0 ≤ k ∧ k < 200) : freeN src (kvs ++ [(k, d)]) + 1 ≤ freeN src kvs := by
  refine filter_less _ _ _ (fun x _ hx => ?_) ⟨k, ?_, ?_, ?_⟩
  · rw [dget_app h] at hx
    split at hx
    · cases hx
    · exact hx
  · rcases hk with hk | ⟨k0, k1⟩
    · exact List.mem_append_left _ hk
    · exact List.mem_append_right _ (List.mem_map.mpr ⟨k.toNat, List.mem_range.mpr (by omega), by show ((k.toNat : Nat) : Int) = k; omega⟩)
  · rw [h]
    rfl
  · rw [dget_app h, if_pos rfl]
    rfl
theorem freeN_le (src : List Int) (kvs : List (Int × D)) : freeN src kvs ≤ src.length + 200 := by
  unfold freeN
  refine Nat.le_trans (List.length_filter_le _ _) ?_
  rw [List.length_append, List.length_map, List.length_range]
  exact Nat.le_refl _
theorem up_len : ∀ (ps : List (Int × Int)) (lo hi : Int), ps.Pairwise (fun a b => a.1 < b.1) → (∀ p ∈ ps, lo ≤ p.1 ∧ p.1 < hi) → (ps.length : Int) ≤ hi - lo ∨ ps = []
  | [], _, _, _, _ => .inr rfl
  | p :: r, lo, hi, up, h => by
    rw [List.pairwise_cons] at up
    have hp := h p List.mem_cons_self
    refine .inl ?_
    rw [List.length_cons]
    rcases up_len r (p.1 + 1) hi up.2 (fun q hq => ⟨by have := up.1 q hq; omega, (h q (List.mem_cons_of_mem _ hq)).2⟩) with e | e
    · omega
    · subst e
      rw [List.length_nil]
      omega
theorem pri_of {n : Nat} (h : priB n = true) : Pri (n : Int) := by
  unfold priB at h
  rw [Bool.and_eq_true, List.all_eq_true] at h
  refine ⟨by have := of_decide_eq_true h.1; omega, fun k k0 k1 hk => ?_⟩
  obtain ⟨m, rfl⟩ := Int.eq_ofNat_of_zero_le (show 0 ≤ k by omega)
  have h1 := h.2 m (List.mem_range.mpr (by omega))
  rw [Bool.or_eq_true] at h1
  rcases h1 with h1 | h1
  · have := of_decide_eq_true h1
    omega
  · refine of_decide_eq_true h1 ?_
    rw [← Int.natCast_emod] at hk
    omega
/-- primes that divide one less than a small prime -/
theorem below_half {p q : Int} (hp : Pri p) (h : p < 402) (h3 : 3 ≤ p) (hq : Pri q) (hd : (p - 1) % q = 0) : q < 200 := by
  have q200 : q ≠ 200 := fun e => by
    subst e
    exact absurd rfl (hq.2 2 (by decide) (by decide))
  obtain ⟨c, hc⟩ := Int.dvd_of_emod_eq_zero hd
  have q2 := hq.1
  rcases Int.lt_or_le c 2 with h1 | h1
  · have c1 : c = 1 := by
      rcases Int.lt_or_le 0 c with k | k
      · omega
      · have : q * c ≤ q * 0 := Int.mul_le_mul_of_nonneg_left k (by omega)
        omega
    subst c1
    rcases Int.lt_or_le p 4 with k | k
    · omega
    · exfalso
      have e1 := hp.2 2 (by omega) (by omega)
      have e2 := hq.2 2 (by omega) (by omega)
      omega
  · have : q * 2 ≤ q * c := Int.mul_le_mul_of_nonneg_left h1 (by omega)
    omega
theorem gr_needs {p : Int} {d : D} (g : GR p d) : (∀ q ∈ needs d, Pri q ∧ q < 200) ∧ (needs d).length ≤ 400 := by
  cases g with
  | first => exact ⟨fun _ h => (nomatch h), Nat.zero_le _⟩
  | @prime p b ps hp h3 h4 b1 b2 f r =>
    rw [needs_prime]
    refine ⟨fun q hq => ?_, ?_⟩
    · obtain ⟨x, hx, rfl⟩ := List.mem_map.mp hq
      exact ⟨f.pri x hx, below_half hp h4 h3 (f.pri x hx) (f.dvd x hx)⟩
    · rw [List.length_map]
      rcases up_len ps 2 200 f.up (fun x hx => ⟨(f.pri x hx).1, below_half hp h4 h3 (f.pri x hx) (f.dvd x hx)⟩) with e | e
      · omega
      · subst e; exact Nat.zero_le _
  | @big p b ps e hb he =>
    rw [needs_prime]
    have : ∀ x ∈ bigs, (∀ q ∈ x.2.2.map (·.1), Pri q ∧ q < 200) ∧ (x.2.2.map (·.1)).length ≤ 400 := by
      intro x hx
      simp only [bigs, List.mem_cons, List.not_mem_nil, or_false] at hx
      rcases hx with rfl | rfl | rfl | rfl
      all_goals refine ⟨fun q hq => ?_, by decide⟩
      all_goals simp only [List.map_cons, List.map_nil, List.mem_cons, List.not_mem_nil, or_false] at hq
      · subst hq; exact ⟨pri_of (n := 2) rfl, by decide⟩
      · rcases hq with rfl | rfl | rfl
        · exact ⟨pri_of (n := 2) rfl, by decide⟩
        · exact ⟨pri_of (n := 7) rfl, by decide⟩
        · exact ⟨pri_of (n := 17) rfl, by decide⟩
      · rcases hq with rfl | rfl | rfl
        · exact ⟨pri_of (n := 2) rfl, by decide⟩
        · exact ⟨pri_of (n := 3) rfl, by decide⟩
        · exact ⟨pri_of (n := 5) rfl, by decide⟩
      · rcases hq with rfl | rfl
        · exact ⟨pri_of (n := 2) rfl, by decide⟩
        · exact ⟨pri_of (n := 29) rfl, by decide⟩
    exact this _ hb
  | split => exact ⟨fun _ h => (nomatch h), Nat.zero_le _⟩
  | power => exact ⟨fun _ h => (nomatch h), Nat.zero_le _⟩
  | root => exact ⟨fun _ h => (nomatch h), Nat.zero_le _⟩
theorem dput_one {p k : Int} {d e : D} : dput [(p, d)] k e = if p = k then [(k, e)] else [(p, d), (k, e)] := by
  by_cases h : p = k
  · subst h
    rw [if_pos rfl]
    simp [dput]
  · rw [if_neg h]
    simp [dput, h]
theorem nodup_le : ∀ (l m : List Int), l.Nodup → (∀ x ∈ l, x ∈ m) → l.length ≤ m.length
  | [], _, _, _ => Nat.zero_le _
  | a :: r, m, nd, h => by
    rw [List.nodup_cons] at nd
    have ha := h a List.mem_cons_self
    have ih := nodup_le r (m.erase a) nd.2 fun x hx => (List.mem_erase_of_ne (fun e => nd.1 (by rw [← e]; exact hx))).mpr (h x (List.mem_cons_of_mem _ hx))
    rw [List.length_erase_of_mem ha] at ih
    have := List.length_pos_of_mem ha
    rw [List.length_cons]
    omega
theorem primes200 : (((List.range 200).filter priB).map Int.ofNat).length = 46 := by decide +kernel
/-- so many rows at most -/
theorem rows_len {ks src : List Int} (up : ks.Pairwise (· < ·)) (h : ∀ k ∈ ks, k ∈ src ∨ Pri k ∧ k < 200) : ks.length ≤ src.length + 46 := by
  rw [← primes200, ← List.length_append]
  refine nodup_le _ _ (up.imp fun h => by omega) fun x hx => ?_
  rcases h x hx with h | ⟨h1, h2⟩
  · exact List.mem_append_left _ h
  · refine List.mem_append_right _ ?_
    obtain ⟨n, rfl⟩ := Int.eq_ofNat_of_zero_le (show 0 ≤ x by have := h1.1; omega)
    exact List.mem_map.mpr ⟨n, List.mem_filter.mpr ⟨List.mem_range.mpr (by omega), priB_of h1⟩, rfl⟩
theorem gr_th {p : Int} {d : D} (g : GR p d) {M : MS} {j k : Nat} : Th M j (k + 5) d := by
  have pr : ∀ ps : List (Int × Int), Th M j (k + 3) (.tup (ps.map pairD)) := fun ps => Th.tup fun d hd => by
    obtain ⟨x, _, rfl⟩ := List.mem_map.mp hd
    exact Th.tup (all_cons (Th.int _) (all_cons (Th.int _) all_nil))
  have row : ∀ (n : Int) (w : List Nat) (fs : List D), (w.all fun c => decide (c < 1114112)) = true → (∀ d ∈ fs, Th M j (k + 3) d) → Th M j (k + 5) (.tup [.int n, .str w, .tup fs]) := fun n w fs hw hf =>
    Th.tup (all_cons (Th.int _) (all_cons (Th.str hw) (all_cons (Th.tup hf) all_nil)))
  cases g with
  | first => exact row _ _ _ (by decide) all_nil
  | prime => exact row _ _ _ (by decide) (all_cons (Th.int _) (all_cons (pr _) all_nil))
  | big => exact row _ _ _ (by decide) (all_cons (Th.int _) (all_cons (pr _) all_nil))
  | split => exact row _ _ _ (by decide) (all_cons (Th.int _) (all_cons (Th.int _) all_nil))
  | power => exact row _ _ _ (by decide) (all_cons (Th.int _) all_nil)
  | root => exact row _ _ _ (by decide) (all_cons (Th.int _) all_nil)
/-! ### slips, looked at -/
def headI : D → Int
  | .tup (.int n :: _) => n
  | _ => 0
def upB : Int → List D → Bool
  | _, [] => true
  | last, d :: r => rowB d && decide (last < headI d) && upB (headI d) r
def slipB : D → Bool
  | .tup rs => decide (1 ≤ rs.length) && decide (rs.length ≤ 200) && upB 1 rs
  | _ => false
theorem rowB_head {d : D} (h : rowB d = true) : ∃ (n : Int) (r : List D), d = .tup (.int n :: r) ∧ 2 ≤ n ∧ n ≤ BND := by
  cases d with
  | tup ds =>
    have h : f3 ds (fun n w f => betw n 2 BND && sfB w f) = true := h
    match ds, h with
    | [a, b, c], h =>
      have h : (betw a 2 BND && sfB b c) = true := h
      rw [Bool.and_eq_true] at h
      obtain ⟨i, rfl, i0, i1⟩ := betw_int h.1
      exact ⟨i, [b, c], rfl, i0, i1⟩
  | _ => cases h
/-! ### rows of the right form, their numbers any -/
structure Pw (ps : List (Int × Int)) : Prop where
  two : ∀ p ∈ ps, 2 ≤ p.1 ∧ p.1 < 1000000
  times : ∀ p ∈ ps, 0 ≤ p.2 ∧ p.2 ≤ 1000
  len : ps.length ≤ 500
  prod : prodP ps < 2 ^ 4000
inductive FR : D → Prop
  | first {n : Int} : 2 ≤ n → n < 2 ^ 120 → FR (.tup [.int n, .str sFirst, .tup []])
  | prime {n b : Int} {ps : List (Int × Int)} : 2 ≤ n → n < 2 ^ 120 → 0 ≤ b → b < 2 ^ 120 → Pw ps → FR (.tup [.int n, .str sPrime, .tup [.int b, .tup (ps.map pairD)]])
  | split {n a c : Int} : 2 ≤ n → n < 2 ^ 120 → 0 ≤ a → a < 2 ^ 120 → 0 ≤ c → c < 2 ^ 120 → FR (.tup [.int n, .str sSplit, .tup [.int a, .int c]])
  | power {n b : Int} : 2 ≤ n → n < 2 ^ 120 → 0 ≤ b → b < 2 ^ 120 → FR (.tup [.int n, .str sPower, .tup [.int b]])
  | root {n b : Int} : 2 ≤ n → n < 2 ^ 120 → 0 ≤ b → b < 2 ^ 120 → FR (.tup [.int n, .str sRoot, .tup [.int b]])
theorem prodP_pos : ∀ (ps : List (Int × Int)), (∀ p ∈ ps, 2 ≤ p.1) → 1 ≤ prodP ps
  | [], _ => by decide
  | (q, t) :: r, h => by
    rw [prodP]
    have h1 := prodP_pos r fun p hp => h p (List.mem_cons_of_mem _ hp)
    have h2 : (0 : Int) < q ^ t.toNat := Int.pow_pos (by have := h (q, t) List.mem_cons_self; have : 2 ≤ q := this; omega)
    have h3 : 1 * 1 ≤ q ^ t.toNat * prodP r := Int.mul_le_mul (by omega) h1 (by omega) (by omega)
    omega
theorem big_facts : ∀ x ∈ bigs, (2 ≤ x.1 ∧ x.1 < 2 ^ 63) ∧ (∀ p ∈ x.2.2, (2 ≤ p.1 ∧ p.1 < 30000) ∧ 0 ≤ p.2 ∧ p.2 ≤ 1000) ∧ x.2.2.length ≤ 500 ∧ prodP x.2.2 < 2 ^ 4000 ∧ prodP x.2.2 = x.1 - 1 := by
  intro x hx
  simp only [bigs, List.mem_cons, List.not_mem_nil, or_false] at hx
  rcases hx with rfl | rfl | rfl | rfl
  all_goals refine ⟨by decide, ?_, by decide, by decide +kernel, by decide +kernel⟩
  all_goals simp
theorem gr_fr {p : Int} {d : D} (g : GR p d) : FR d := by
  cases g with
  | first => exact .first (by decide) (by decide)
  | @prime p b ps hp h3 h4 b1 b2 f r =>
    refine .prime hp.1 (by omega) (by omega) (by omega) ⟨fun x hx => ?_, fun x hx => ?_, ?_, ?_⟩
    · have := f.pri x hx
      have h5 := below_half hp h4 h3 this (f.dvd x hx)
      exact ⟨this.1, by omega⟩
    · have := f.pos x hx
      omega
    · have := (gr_needs (.prime hp h3 h4 b1 b2 f r)).2
      rw [needs_prime, List.length_map] at this
      omega
    · rw [f.prod]
      exact Int.lt_of_lt_of_le (show p - 1 < 2 ^ 9 by omega) (by decide +kernel)
  | @big p b ps e hb he =>
    have h := big_facts _ hb
    have p2 : 2 ≤ p ∧ p < 2 ^ 63 := h.1
    have m0 := Int.emod_nonneg (b ^ e) (show p ≠ 0 by omega)
    have m1 := Int.emod_lt_of_pos (b ^ e) (show 0 < p by omega)
    exact .prime p2.1 (by omega) m0 (by omega) ⟨fun x hx => ⟨(h.2.1 x hx).1.1, by have := (h.2.1 x hx).1.2; omega⟩, fun x hx => (h.2.1 x hx).2, h.2.2.1, h.2.2.2.1⟩
  | @split n a c a2 c2 e h =>
    have h1 : a * 2 ≤ a * c := Int.mul_le_mul_of_nonneg_left c2 (by omega)
    have h2 : 2 * c ≤ a * c := Int.mul_le_mul_of_nonneg_right a2 (by omega)
    exact .split (by omega) (by omega) (by omega) (by omega) (by omega) (by omega)
  | @power n a c b a2 c2 e h b1 b2 h3 =>
    have h1 : a * 2 ≤ a * c := Int.mul_le_mul_of_nonneg_left c2 (by omega)
    exact .power (by omega) (by omega) (by omega) (by omega)
  | @root n a c b a2 c2 e h b1 b2 h3 =>
    have h1 : a * 2 ≤ a * c := Int.mul_le_mul_of_nonneg_left c2 (by omega)
    exact .root (by omega) (by omega) (by omega) (by omega)
/-! ### whether a row holds -/
def rndB (n b : Int) (ps : List (Int × Int)) : Bool := decide (b ^ (n - 1).toNat % n = 1) && ps.all fun p => !decide (b ^ ((n - 1) / p.1).toNat % n = 1)
theorem rndB_iff {n b : Int} {ps : List (Int × Int)} : rndB n b ps = true ↔ Rnd n b ps := by
  unfold rndB Rnd
  rw [Bool.and_eq_true, List.all_eq_true, decide_eq_true_iff]
  refine and_congr_right fun _ => forall_congr' fun p => imp_congr_right fun _ => ?_
  rw [Bool.not_eq_true', decide_eq_false_iff_not]
def pairOf : D → Int × Int
  | .tup [.int a, .int b] => (a, b)
  | _ => (0, 0)
theorem pairOf_map (ps : List (Int × Int)) : (ps.map pairD).map pairOf = ps := by
  rw [List.map_map]
  exact List.map_id ps
def hPrime (n b : Int) (ps : List (Int × Int)) (prs : List Int) : Bool := (ps.all fun p => decide (p.1 ∈ prs)) && (decide (prodP ps = n - 1) && (decide (b < n) && rndB n b ps))
def holdsV : D → List Int → Bool
  | .tup [.int n, .str w, .tup fs], prs => if w = sFirst then decide (n = 2) else if w = sPrime then (match fs with
      | [.int b, .tup ps] => hPrime n b (ps.map pairOf) prs
      | _ => false) else if w = sSplit then (match fs with
      | [.int a, .int c] => decide (a * c = n)
      | _ => false) else if w = sPower then (match fs with
      | [.int b] => decide (b < n) && !decide (b ^ (n - 1).toNat % n = 1)
      | _ => false) else (match fs with
      | [.int b] => decide (1 < b) && (decide (b < n - 1) && decide (b * b % n = 1))
      | _ => false)
  | _, _ => false
def tellsV : D → Bool
  | .tup [_, .str w, _] => decide (w = sFirst) || decide (w = sPrime)
  | _ => false
theorem holds_prime {n b : Int} {ps : List (Int × Int)} {prs : List Int} : holdsV (.tup [.int n, .str sPrime, .tup [.int b, .tup (ps.map pairD)]]) prs = hPrime n b ps prs := by
  show hPrime n b ((ps.map pairD).map pairOf) prs = _
  rw [pairOf_map]
theorem ipow_nn {a : Int} (h : 0 ≤ a) : ∀ n : Nat, 0 ≤ a ^ n
  | 0 => by rw [Int.pow_zero]; decide
  | n + 1 => by rw [Int.pow_succ]; exact Int.mul_nonneg (ipow_nn h n) h
theorem ipow_le_l {a b : Int} (h0 : 0 ≤ a) (h : a ≤ b) : ∀ n : Nat, a ^ n ≤ b ^ n
  | 0 => by rw [Int.pow_zero, Int.pow_zero]; exact Int.le_refl _
  | n + 1 => by rw [Int.pow_succ, Int.pow_succ]; exact Int.mul_le_mul (ipow_le_l h0 h n) h h0 (ipow_nn (by omega) n)
theorem ipow_le_r {a : Int} (h : 1 ≤ a) {m n : Nat} (hm : m ≤ n) : a ^ m ≤ a ^ n := by
  obtain ⟨k, rfl⟩ : ∃ k, n = m + k := ⟨n - m, by omega⟩
  rw [ipow_add]
  have h1 := ipow_nn (show 0 ≤ a by omega) m
  have h2 : (0 : Int) < a ^ k := Int.pow_pos (by omega)
  have : a ^ m * 1 ≤ a ^ m * a ^ k := Int.mul_le_mul_of_nonneg_left (by omega) h1
  omega
end Sl
/-! Row: rows as they stand when spoilt some times; how a slip is judged, in plain words. -/
namespace Sl
structure PwG (g : Nat) (ps : List (Int × Int)) : Prop where
  q : ∀ p ∈ ps, 2 ≤ p.1 ∧ p.1 ≤ 20000 + 10 * (g : Int)
  t : ∀ p ∈ ps, 1 ≤ p.2 ∧ p.2 ≤ 100
  up : ps.Pairwise fun a b => a.1 < b.1
  ne : ps ≠ []
  len : ps.length ≤ 300 + g
  prod : prodP ps < 2 ^ (100 + 1500 * g)
/-- rows of the right form, spoilt g times at most -/
inductive SR (g : Nat) : D → Prop
  | first {n : Int} : 2 ≤ n → n ≤ 10 ^ 30 - 1000 + g → SR g (.tup [.int n, .str sFirst, .tup []])
  | prime {n b : Int} {ps : List (Int × Int)} : 2 ≤ n → n ≤ 10 ^ 30 - 1000 + g → 1 ≤ b → b ≤ 10 ^ 30 → PwG g ps → SR g (.tup [.int n, .str sPrime, .tup [.int b, .tup (ps.map pairD)]])
  | split {n a c : Int} : 2 ≤ n → n ≤ 10 ^ 30 - 1000 + g → 2 ≤ a → a ≤ 10 ^ 30 - 1000 + g → 2 ≤ c → c ≤ 10 ^ 30 - 1000 + g → SR g (.tup [.int n, .str sSplit, .tup [.int a, .int c]])
  | power {n b : Int} : 2 ≤ n → n ≤ 10 ^ 30 - 1000 + g → 1 ≤ b → b ≤ 10 ^ 30 → SR g (.tup [.int n, .str sPower, .tup [.int b]])
  | root {n b : Int} : 2 ≤ n → n ≤ 10 ^ 30 - 1000 + g → 1 ≤ b → b ≤ 10 ^ 30 → SR g (.tup [.int n, .str sRoot, .tup [.int b]])
theorem PwG.more {g h : Nat} {ps : List (Int × Int)} (p : PwG g ps) (hg : g ≤ h) : PwG h ps where
  q := fun x hx => ⟨(p.q x hx).1, by have := (p.q x hx).2; omega⟩
  t := p.t
  up := p.up
  ne := p.ne
  len := by have := p.len; omega
  prod := Int.lt_of_lt_of_le p.prod (ipow_le_r (by decide) (by omega))
theorem SR.more {g h : Nat} {d : D} (s : SR g d) (hg : g ≤ h) : SR h d := by
  cases s with
  | first a b => exact .first a (by omega)
  | prime a b c d e => exact .prime a (by omega) c d (e.more hg)
  | split a b c d e f => exact .split a (by omega) c (by omega) e (by omega)
  | power a b c d => exact .power a (by omega) c d
  | root a b c d => exact .root a (by omega) c d
theorem PwG.pw {g : Nat} {ps : List (Int × Int)} (p : PwG g ps) (hg : g ≤ 2) : Pw ps where
  two := fun x hx => ⟨(p.q x hx).1, by have := (p.q x hx).2; omega⟩
  times := fun x hx => by have := p.t x hx; omega
  len := by have := p.len; omega
  prod := by
    have h9 : (2 : Int) ^ (100 + 1500 * g) ≤ 2 ^ 3999 := ipow_le_r (by decide) (by omega)
    have h8 : (2 : Int) ^ 3999 < 2 ^ 4000 := by decide +kernel
    exact Int.lt_trans (Int.lt_of_lt_of_le p.prod h9) h8
theorem SR.fr {g : Nat} {d : D} (s : SR g d) (hg : g ≤ 2) : FR d := by
  cases s with
  | first a b => exact .first a (by omega)
  | prime a b c d e => exact .prime a (by omega) (by omega) (by omega) (e.pw hg)
  | split a b c d e f => exact .split a (by omega) (by omega) (by omega) (by omega) (by omega)
  | power a b c d => exact .power a (by omega) (by omega) (by omega)
  | root a b c d => exact .root a (by omega) (by omega) (by omega)
theorem betw_of {i lo hi : Int} (h0 : lo ≤ i) (h1 : i ≤ hi) : betw (.int i) lo hi = true := by
  rw [betw, decide_eq_true h0, decide_eq_true h1]; rfl
theorem powB_of : ∀ (ps : List (Int × Int)) (last : Int), (∀ p ∈ ps, last < p.1 ∧ p.1 ≤ BND) → (∀ p ∈ ps, 1 ≤ p.2 ∧ p.2 ≤ 100) → ps.Pairwise (fun a b => a.1 < b.1) → powB last (ps.map pairD) = true
  | [], _, _, _, _ => rfl
  | x :: r, last, h1, h2, h3 => by
    rw [List.pairwise_cons] at h3
    have a := h1 x List.mem_cons_self
    have b := h2 x List.mem_cons_self
    rw [List.map_cons, pairD, powB, betw_of (by omega) a.2, betw_of b.1 b.2]
    exact powB_of r x.1 (fun p hp => ⟨h3.1 p hp, (h1 p (List.mem_cons_of_mem _ hp)).2⟩) (fun p hp => h2 p (List.mem_cons_of_mem _ hp)) h3.2
theorem row_prime {n b : Int} {ps : List (Int × Int)} (h0 : 2 ≤ n) (h1 : n ≤ BND) (h2 : 1 ≤ b) (h3 : b ≤ BND) (h4 : ps ≠ []) (h5 : powB 1 (ps.map pairD) = true) : rowB (.tup [.int n, .str sPrime, .tup [.int b, .tup (ps.map pairD)]]) = true := by
  show (betw (.int n) 2 BND && (betw (.int b) 1 BND && (!decide ((ps.map pairD).length = 0) && powB 1 (ps.map pairD)))) = true
  have e : ¬ (ps.map pairD).length = 0 := fun z => h4 (by cases ps <;> first | rfl | cases z)
  rw [betw_of h0 h1, betw_of h2 h3, h5, decide_eq_false e]
  rfl
theorem SR.row {g : Nat} {d : D} (s : SR g d) (hg : g ≤ 1000) : rowB d = true := by
  cases s with
  | @first n a b =>
    show (betw (.int n) 2 BND && true) = true
    rw [betw_of a (by unfold BND; omega)]; rfl
  | prime a b c d e =>
    refine row_prime a (by unfold BND; omega) c (by unfold BND; omega) e.ne (powB_of _ _ (fun p hp => ⟨by have := (e.q p hp).1; omega, by have := (e.q p hp).2; unfold BND; omega⟩) e.t e.up)
  | @split n a c a0 a1 b0 b1 c0 c1 =>
    show (betw (.int n) 2 BND && (betw (.int a) 2 BND && betw (.int c) 2 BND)) = true
    rw [betw_of a0 (by unfold BND; omega), betw_of b0 (by unfold BND; omega), betw_of c0 (by unfold BND; omega)]; rfl
  | @power n b a0 a1 b0 b1 =>
    show (betw (.int n) 2 BND && betw (.int b) 1 BND) = true
    rw [betw_of a0 (by unfold BND; omega), betw_of b0 (by unfold BND; omega)]; rfl
  | @root n b a0 a1 b0 b1 =>
    show (betw (.int n) 2 BND && betw (.int b) 1 BND) = true
    rw [betw_of a0 (by unfold BND; omega), betw_of b0 (by unfold BND; omega)]; rfl
/-- a right row, as the laws' own defs look at it -/
structure RR (d : D) : Prop where
  fr : FR d
  row : rowB d = true
theorem SR.rr {g : Nat} {d : D} (s : SR g d) (hg : g ≤ 2) : RR d := ⟨s.fr hg, s.row (by omega)⟩
theorem FR.head {d : D} (g : FR d) : ∃ (n : Int) (w : List Nat) (fs : List D), d = .tup [.int n, .str w, .tup fs] ∧ 2 ≤ n ∧ n < 2 ^ 120 := by
  cases g with
  | first a b => exact ⟨_, _, _, rfl, a, b⟩
  | prime a b => exact ⟨_, _, _, rfl, a, b⟩
  | split a b => exact ⟨_, _, _, rfl, a, b⟩
  | power a b => exact ⟨_, _, _, rfl, a, b⟩
  | root a b => exact ⟨_, _, _, rfl, a, b⟩
theorem fr_th {d : D} (g : FR d) {M : MS} {j k : Nat} : Th M j (k + 5) d := by
  have pr : ∀ ps : List (Int × Int), Th M j (k + 3) (.tup (ps.map pairD)) := fun ps => Th.tup fun d hd => by
    obtain ⟨x, _, rfl⟩ := List.mem_map.mp hd
    exact Th.tup (all_cons (Th.int _) (all_cons (Th.int _) all_nil))
  have row : ∀ (n : Int) (w : List Nat) (fs : List D), (w.all fun c => decide (c < 1114112)) = true → (∀ d ∈ fs, Th M j (k + 3) d) → Th M j (k + 5) (.tup [.int n, .str w, .tup fs]) := fun n w fs hw hf =>
    Th.tup (all_cons (Th.int _) (all_cons (Th.str hw) (all_cons (Th.tup hf) all_nil)))
  cases g with
  | first => exact row _ _ _ (by decide) all_nil
  | prime => exact row _ _ _ (by decide) (all_cons (Th.int _) (all_cons (pr _) all_nil))
  | split => exact row _ _ _ (by decide) (all_cons (Th.int _) (all_cons (Th.int _) all_nil))
  | power => exact row _ _ _ (by decide) (all_cons (Th.int _) all_nil)
  | root => exact row _ _ _ (by decide) (all_cons (Th.int _) all_nil)
/-! ### from rows as they are made -/
theorem two_len : ∀ (ps : List (Int × Int)), (∀ p ∈ ps, 2 ≤ p.1 ∧ 1 ≤ p.2) → (2 : Int) ^ ps.length ≤ prodP ps
  | [], _ => by rw [prodP]; decide
  | (q, t) :: r, h => by
    rw [prodP, List.length_cons, Int.pow_succ, Int.mul_comm]
    have h1 := two_len r fun p hp => h p (List.mem_cons_of_mem _ hp)
    have h2 : 2 ≤ q ∧ 1 ≤ t := h (q, t) List.mem_cons_self
    have h3 : q ^ 1 ≤ q ^ t.toNat := ipow_le_r (by omega) (by omega)
    rw [Int.pow_succ, Int.pow_zero, Int.one_mul] at h3
    exact Int.mul_le_mul (by omega) h1 (ipow_nn (by decide) _) (by omega)
theorem two_times : ∀ (ps : List (Int × Int)), (∀ p ∈ ps, 2 ≤ p.1 ∧ 1 ≤ p.2) → ∀ p ∈ ps, (2 : Int) ^ p.2.toNat ≤ prodP ps
  | [], _, p, hp => by cases hp
  | (q, t) :: r, h, p, hp => by
    rw [prodP]
    have h1 : 1 ≤ prodP r := prodP_pos r fun p hp => (h p (List.mem_cons_of_mem _ hp)).1
    have h2 : 2 ≤ q ∧ 1 ≤ t := h (q, t) List.mem_cons_self
    have h3 : (0 : Int) < q ^ t.toNat := Int.pow_pos (by omega)
    rcases List.mem_cons.mp hp with rfl | hp
    · have h4 : (2 : Int) ^ t.toNat ≤ q ^ t.toNat := ipow_le_l (by decide) h2.1 _
      have h5 : q ^ t.toNat * 1 ≤ q ^ t.toNat * prodP r := Int.mul_le_mul_of_nonneg_left h1 (by omega)
      show (2 : Int) ^ t.toNat ≤ _
      omega
    · have h4 := two_times r (fun p hp => h p (List.mem_cons_of_mem _ hp)) p hp
      have h5 : 1 * prodP r ≤ q ^ t.toNat * prodP r := Int.mul_le_mul_of_nonneg_right (by omega) (by omega)
      omega
theorem log_lt {k m : Nat} {x : Int} (h : (2 : Int) ^ k ≤ x) (hx : x < 2 ^ m) : k < m := by
  rcases Nat.lt_or_ge k m with c | c
  · exact c
  · have := ipow_le_r (show (1 : Int) ≤ 2 by decide) c
    omega
theorem pg_of_fac {n : Int} {ps : List (Int × Int)} (h2 : 2 ≤ n) (h : n ≤ 20000) (f : Fac n ps) : PwG 0 ps := by
  have hb : ∀ p ∈ ps, 2 ≤ p.1 ∧ 1 ≤ p.2 := fun p hp => ⟨(f.pri p hp).1, (f.pos p hp).1⟩
  have hpr : prodP ps < 2 ^ 100 := by rw [f.prod]; omega
  refine ⟨fun p hp => ⟨(hb p hp).1, by have := dvd_le (f.dvd p hp) (by omega); omega⟩, fun p hp => ⟨(hb p hp).2, ?_⟩, f.up, f.ne h2, ?_, hpr⟩
  · have := log_lt (two_times ps hb p hp) hpr
    omega
  · have := log_lt (two_len ps hb) hpr
    omega
/-! powers by a number, reckoned -/
def pm (m : Nat) : Nat → Nat → Nat → Nat → Nat
  | 0, _, _, a => a % m
  | f + 1, b, e, a => if e = 0 then a % m else pm m f (b * b % m) (e / 2) (if e % 2 = 1 then a * b % m else a)
theorem pm_eq (m : Nat) : ∀ (f b e a : Nat), e < 2 ^ f → pm m f b e a = a * b ^ e % m
  | 0, b, e, a, h => by
    have : e = 0 := by rw [Nat.pow_zero] at h; omega
    subst this
    rw [pm, Nat.pow_zero, Nat.mul_one]
  | f + 1, b, e, a, h => by
    rw [pm]
    by_cases h0 : e = 0
    · subst h0
      rw [if_pos rfl, Nat.pow_zero, Nat.mul_one]
    · rw [if_neg h0, pm_eq m f _ _ _ (by rw [Nat.pow_succ] at h; omega)]
      have sq : ∀ k, (b * b % m) ^ k % m = b ^ (2 * k) % m := fun k => by rw [← Nat.pow_mod, Nat.pow_mul, Nat.pow_succ, Nat.pow_succ, Nat.pow_zero, Nat.one_mul]
      by_cases h1 : e % 2 = 1
      · rw [if_pos h1, Nat.mul_mod, sq, Nat.mod_mod, ← Nat.mul_mod, Nat.mul_assoc, show b * b ^ (2 * (e / 2)) = b ^ e by rw [Nat.mul_comm, ← Nat.pow_succ]; congr 1; omega]
      · rw [if_neg h1, Nat.mul_mod, sq, ← Nat.mul_mod, show 2 * (e / 2) = e by omega]
def bigB (x : Int × Int × List (Int × Int)) (e : Nat) : Bool :=
  let p := x.1.toNat
  let g := pm p 5 x.2.1.toNat e 1
  decide (1 ≤ g) && (decide (pm p 63 g (p - 1) 1 = 1) && x.2.2.all fun q => decide (1 ≤ q.1) && !decide (pm p 63 g ((p - 1) / q.1.toNat) 1 = 1))
theorem bigs_ok : (bigs.all fun x => [1, 11, 13, 19, 23].all fun e => decide (0 ≤ x.2.1) && decide (x.1.toNat < 2 ^ 63) && bigB x e) = true := by decide +kernel
theorem big_rnd {p b : Int} {ps : List (Int × Int)} {e : Nat} (hb : (p, b, ps) ∈ bigs) (he : e ∈ [1, 11, 13, 19, 23]) : 1 ≤ b ^ e % p ∧ Rnd p (b ^ e % p) ps := by
  have h1 := List.all_eq_true.mp (List.all_eq_true.mp bigs_ok _ hb) e he
  rw [Bool.and_eq_true, Bool.and_eq_true] at h1
  obtain ⟨⟨b0, p63⟩, h1⟩ := h1
  replace b0 : 0 ≤ b := of_decide_eq_true b0
  replace p63 : p.toNat < 2 ^ 63 := of_decide_eq_true p63
  have p2 : 2 ≤ p := (big_facts _ hb).1.1
  unfold bigB at h1
  dsimp only at h1
  have e5 : e < 2 ^ 5 := by
    simp only [List.mem_cons, List.not_mem_nil, or_false] at he
    omega
  obtain ⟨P, rfl⟩ := Int.eq_ofNat_of_zero_le (show 0 ≤ p by omega)
  obtain ⟨B, rfl⟩ := Int.eq_ofNat_of_zero_le b0
  rw [Int.toNat_natCast] at p63
  simp only [Int.toNat_natCast] at h1
  rw [Bool.and_eq_true, Bool.and_eq_true, List.all_eq_true] at h1
  obtain ⟨k1, k2, k3⟩ := h1
  replace k1 := of_decide_eq_true k1
  replace k2 := of_decide_eq_true k2
  rw [pm_eq _ 5 _ _ _ e5, Nat.one_mul] at k1
  rw [pm_eq _ 63 _ _ _ (by omega), Nat.one_mul, pm_eq _ 5 _ _ _ e5, Nat.one_mul] at k2
  rw [pow_cast]
  refine ⟨by omega, ?_, fun q hq => ?_⟩
  · rw [show ((P : Int) - 1).toNat = P - 1 by omega, pow_cast, k2]
    rfl
  · have h4 := k3 q hq
    rw [Bool.and_eq_true] at h4
    have q1 := of_decide_eq_true h4.1
    have h4 := h4.2
    have hd : (P - 1) / q.1.toNat ≤ P - 1 := Nat.div_le_self _ _
    rw [Bool.not_eq_true', decide_eq_false_iff_not, pm_eq _ 63 _ _ _ (by omega), Nat.one_mul, pm_eq _ 5 _ _ _ e5, Nat.one_mul] at h4
    obtain ⟨qn, hqn⟩ := Int.eq_ofNat_of_zero_le (show 0 ≤ q.1 by omega)
    rw [hqn, Int.toNat_natCast] at h4
    rw [hqn, show ((P : Int) - 1) = ((P - 1 : Nat) : Int) by omega, ← Int.natCast_ediv, Int.toNat_natCast, pow_cast]
    omega
theorem gr_sr {p : Int} {d : D} (g : GR p d) : SR 0 d := by
  cases g with
  | first => exact .first (by decide) (by decide)
  | prime hp h3 h4 b1 b2 f r => exact .prime hp.1 (by omega) b1 (by omega) (pg_of_fac (by omega) (by omega) f)
  | @big p b ps e hb he =>
    have h := big_facts _ hb
    have p2 : 2 ≤ p ∧ p < 2 ^ 63 := h.1
    have m1 := Int.emod_lt_of_pos (b ^ e) (show 0 < p by omega)
    have hq : ∀ x ∈ bigs, (∀ p ∈ x.2.2, (2 ≤ p.1 ∧ p.1 ≤ 20000) ∧ 1 ≤ p.2 ∧ p.2 ≤ 100) ∧ x.2.2.Pairwise (fun a b => a.1 < b.1) ∧ x.2.2 ≠ [] ∧ x.2.2.length ≤ 300 := by decide
    obtain ⟨q1, q2, q3, q4⟩ := hq _ hb
    exact .prime p2.1 (by omega) (big_rnd hb he).1 (by omega) ⟨fun x hx => ⟨(q1 x hx).1.1, by have := (q1 x hx).1.2; omega⟩, fun x hx => (q1 x hx).2, q2, q3, by omega, by rw [h.2.2.2.2]; show p - 1 < 2 ^ 100; omega⟩
  | @split n a c a2 c2 e h =>
    have h1 : a * 2 ≤ a * c := Int.mul_le_mul_of_nonneg_left c2 (by omega)
    have h2 : 2 * c ≤ a * c := Int.mul_le_mul_of_nonneg_right a2 (by omega)
    exact .split (by omega) (by omega) a2 (by omega) c2 (by omega)
  | @power n a c b a2 c2 e h b1 b2 h3 =>
    have h1 : a * 2 ≤ a * c := Int.mul_le_mul_of_nonneg_left c2 (by omega)
    exact .power (by omega) (by omega) b1 (by omega)
  | @root n a c b a2 c2 e h b1 b2 h3 =>
    have h1 : a * 2 ≤ a * c := Int.mul_le_mul_of_nonneg_left c2 (by omega)
    exact .root (by omega) (by omega) (by omega) (by omega)
theorem gr_headI {p : Int} {d : D} (g : GR p d) : headI d = p := by cases g <;> rfl
/-! ### judged -/
def wrongV : Nat → List D → List Int → Option Nat
  | _, [], _ => none
  | k, d :: r, prs => if holdsV d prs = true then wrongV (k + 1) r (if tellsV d = true then prs ++ [headI d] else prs) else some k
def optI : Option Nat → D
  | none => .non
  | some k => .int (k : Int)
theorem gr_parted {p : Int} {d : D} (g : GR p d) : tellsV d = true ∨ ∃ a c : Int, 2 ≤ a ∧ 2 ≤ c ∧ a * c = p := by
  cases g with
  | first => exact .inl rfl
  | prime => exact .inl rfl
  | big => exact .inl rfl
  | split a2 c2 e => exact .inr ⟨_, _, a2, c2, e⟩
  | power a2 c2 e => exact .inr ⟨_, _, a2, c2, e⟩
  | root a2 c2 e => exact .inr ⟨_, _, a2, c2, e⟩
theorem not_pri_mul {a c p : Int} (a2 : 2 ≤ a) (c2 : 2 ≤ c) (e : a * c = p) : ¬ Pri p := fun h => by
  have h1 : a * 2 ≤ a * c := Int.mul_le_mul_of_nonneg_left c2 (by omega)
  exact h.2 a a2 (by omega) (by rw [← e]; exact Int.mul_emod_right a c)
theorem gr_tells {p : Int} {d : D} (g : GR p d) (hp : Pri p) : tellsV d = true := by
  rcases gr_parted g with h | ⟨a, c, a2, c2, e⟩
  · exact h
  · exact absurd hp (not_pri_mul a2 c2 e)
theorem gr_holds {p : Int} {d : D} {prs : List Int} (g : GR p d) (hn : ∀ q ∈ needs d, q ∈ prs) : holdsV d prs = true := by
  cases g with
  | first => rfl
  | @prime p b ps hp h3 h4 b1 b2 f r =>
    rw [holds_prime]
    unfold hPrime
    rw [needs_prime] at hn
    rw [rndB_iff.mpr r, decide_eq_true f.prod, decide_eq_true b2, List.all_eq_true.mpr fun x hx => decide_eq_true (hn _ (List.mem_map.mpr ⟨x, hx, rfl⟩))]
    rfl
  | @big p b ps e hb he =>
    rw [holds_prime]
    unfold hPrime
    rw [needs_prime] at hn
    have p2 : 2 ≤ p := (big_facts _ hb).1.1
    have pp : prodP ps = p - 1 := (big_facts _ hb).2.2.2.2
    rw [rndB_iff.mpr (big_rnd hb he).2, decide_eq_true pp, decide_eq_true (Int.emod_lt_of_pos _ (by omega)), List.all_eq_true.mpr fun x hx => decide_eq_true (hn _ (List.mem_map.mpr ⟨x, hx, rfl⟩))]
    rfl
  | @split n a c a2 c2 e h => exact decide_eq_true e
  | @power n a c b a2 c2 e h b1 b2 h3 =>
    show (decide (b < p) && !decide (b ^ (p - 1).toNat % p = 1)) = true
    rw [decide_eq_true b2, decide_eq_false h3]
    rfl
  | @root n a c b a2 c2 e h b1 b2 h3 =>
    show (decide (1 < b) && (decide (b < p - 1) && decide (b * b % p = 1))) = true
    rw [decide_eq_true b1, decide_eq_true b2, decide_eq_true h3]
    rfl
theorem needs_less {p : Int} {d : D} (g : GR p d) : ∀ q ∈ needs d, q < p := by
  cases g with
  | @prime p b ps hp h3 h4 b1 b2 f r =>
    rw [needs_prime]
    intro q hq
    obtain ⟨x, hx, rfl⟩ := List.mem_map.mp hq
    have := dvd_le (f.dvd x hx) (by omega)
    omega
  | @big p b ps e hb he =>
    rw [needs_prime]
    intro q hq
    obtain ⟨x, hx, rfl⟩ := List.mem_map.mp hq
    have : ∀ y ∈ bigs, ∀ x ∈ y.2.2, x.1 < y.1 := by decide
    exact this _ hb x hx
  | _ => exact fun _ h => (nomatch h)
/-- rows as the laws make them are let by -/
structure Good (rs : List D) : Prop where
  gr : ∀ d ∈ rs, GR (headI d) d
  up : rs.Pairwise fun a b => headI a < headI b
  need : ∀ d ∈ rs, ∀ q ∈ needs d, ∃ e ∈ rs, headI e = q
theorem good_wrong {rs : List D} (h : Good rs) : wrongV 0 rs [] = none := by
  have key : ∀ (suf pre : List D) (k : Nat) (prs : List Int), rs = pre ++ suf → (∀ e ∈ pre, tellsV e = true → headI e ∈ prs) → wrongV k suf prs = none := by
    intro suf
    induction suf with
    | nil => intros; rfl
    | cons d r ih =>
      intro pre k prs e hp
      have hd : d ∈ rs := by rw [e]; simp
      have g := h.gr d hd
      have up := h.up
      rw [e, List.pairwise_append, List.pairwise_cons] at up
      have hh : holdsV d prs = true := gr_holds g fun q hq => by
        obtain ⟨x, hx, hq2⟩ := h.need d hd q hq
        have pq := (gr_needs g).1 q hq
        have lt := needs_less g q hq
        have xp : x ∈ pre := by
          rw [e] at hx
          rcases List.mem_append.mp hx with hx | hx
          · exact hx
          · rcases List.mem_cons.mp hx with rfl | hx
            · omega
            · have := up.2.1.1 x hx
              omega
        have := hp x xp (gr_tells (h.gr x hx) (by rw [hq2]; exact pq.1))
        rw [hq2] at this
        exact this
      rw [wrongV, if_pos hh]
      refine ih (pre ++ [d]) (k + 1) _ (by rw [e, List.append_assoc]; rfl) fun x hx ht => ?_
      rcases List.mem_append.mp hx with hx | hx
      · have := hp x hx ht
        split
        · exact List.mem_append_left _ this
        · exact this
      · rw [List.mem_singleton.mp hx] at ht ⊢
        rw [if_pos ht]
        exact List.mem_append_right _ (List.mem_singleton.mpr rfl)
  exact key rs [] 0 [] rfl (fun _ h => (nomatch h))
theorem good_of {ks : List Int} {f : Int → D} (up : ks.Pairwise (· < ·)) (hg : ∀ k ∈ ks, GR k (f k)) (hn : ∀ k ∈ ks, ∀ r ∈ needs (f k), r ∈ ks) : Good (ks.map f) := by
  refine ⟨fun d hd => ?_, ?_, fun d hd q hq => ?_⟩
  · obtain ⟨k, hk, rfl⟩ := List.mem_map.mp hd
    rw [gr_headI (hg k hk)]
    exact hg k hk
  · rw [List.pairwise_map]
    have : ∀ l : List Int, (∀ k ∈ l, k ∈ ks) → l.Pairwise (· < ·) → l.Pairwise fun a b => headI (f a) < headI (f b) := by
      intro l
      induction l with
      | nil => exact fun _ _ => .nil
      | cons a r ih =>
        intro h1 h2
        rw [List.pairwise_cons] at h2 ⊢
        refine ⟨fun b hb => ?_, ih (fun k hk => h1 k (List.mem_cons_of_mem _ hk)) h2.2⟩
        rw [gr_headI (hg a (h1 a List.mem_cons_self)), gr_headI (hg b (h1 b (List.mem_cons_of_mem _ hb)))]
        exact h2.1 b hb
    exact this ks (fun _ h => h) up
  · obtain ⟨k, hk, rfl⟩ := List.mem_map.mp hd
    exact ⟨f q, List.mem_map.mpr ⟨q, hn k hk q hq, rfl⟩, gr_headI (hg q (hn k hk q hq))⟩
/-- slips by form -/
theorem upB_iff : ∀ (rs : List D) (last : Int), (∀ d ∈ rs, rowB d = true) → (upB last rs = true ↔ (∀ d ∈ rs, last < headI d) ∧ rs.Pairwise fun a b => headI a < headI b)
  | [], _, _ => ⟨fun _ => ⟨fun _ h => (nomatch h), .nil⟩, fun _ => rfl⟩
  | a :: r, last, h => by
    rw [upB, h a List.mem_cons_self, Bool.true_and, Bool.and_eq_true, upB_iff r (headI a) fun d hd => h d (List.mem_cons_of_mem _ hd), decide_eq_true_iff, List.pairwise_cons]
    constructor
    · rintro ⟨h1, h2, h3⟩
      refine ⟨fun d hd => ?_, h2, h3⟩
      rcases List.mem_cons.mp hd with rfl | hd
      · exact h1
      · have := h2 d hd
        omega
    · rintro ⟨h1, h2, h3⟩
      exact ⟨h1 a List.mem_cons_self, h2, h3⟩
theorem slipB_of {rs : List D} (h1 : rs ≠ []) (h2 : rs.length ≤ 200) (h : ∀ d ∈ rs, rowB d = true) (up : rs.Pairwise fun a b => headI a < headI b) : slipB (.tup rs) = true := by
  have h3 := List.length_pos_iff.mpr h1
  show (decide (1 ≤ rs.length) && decide (rs.length ≤ 200) && upB 1 rs) = true
  rw [decide_eq_true (show 1 ≤ rs.length by omega), decide_eq_true h2, Bool.true_and, Bool.true_and, upB_iff rs 1 h]
  refine ⟨fun d hd => ?_, up⟩
  obtain ⟨n, r, rfl, n2, _⟩ := rowB_head (h d hd)
  show 1 < n
  omega
theorem slipB_up {rs : List D} (h : ∀ d ∈ rs, rowB d = true) (s : slipB (.tup rs) = true) : rs.Pairwise fun a b => headI a < headI b := by
  replace s : (decide (1 ≤ rs.length) && decide (rs.length ≤ 200) && upB 1 rs) = true := s
  rw [Bool.and_eq_true, upB_iff rs 1 h] at s
  exact s.2.2
/-! dicts -/
theorem dget_put {kvs : List (Int × D)} {k j : Int} {d : D} : dget (dput kvs k d) j = if j = k then some d else dget kvs j := by
  cases hg : dget kvs k with
  | none => rw [dput_new hg, dget_app hg]
  | some v =>
    have hany : (kvs.any fun kv => decide (kv.1 = k)) = true := by
      rw [List.any_eq_true]
      exact ⟨_, dget_mem hg, decide_eq_true rfl⟩
    unfold dput
    rw [if_pos hany]
    clear hany
    have key : ∀ l : List (Int × D), dget (l.map fun kv => if kv.1 = k then (kv.1, d) else kv) j = if j = k then (dget l k).map (fun _ => d) else dget l j := by
      intro l
      induction l with
      | nil => unfold dget; simp
      | cons a r ih =>
        unfold dget at ih ⊢
        rw [List.map_cons]
        by_cases hak : a.1 = k
        · rw [if_pos hak]
          by_cases hjk : j = k
          · rw [if_pos hjk, List.find?_cons_of_pos (by simp [hak, hjk]), List.find?_cons_of_pos (by simp [hak])]
            rfl
          · rw [if_neg hjk, List.find?_cons_of_neg (by simp [hak]; exact fun z => hjk z.symm), ih, if_neg hjk, List.find?_cons_of_neg (by simp [hak]; exact fun z => hjk z.symm)]
        · rw [if_neg hak]
          by_cases haj : a.1 = j
          · have hjk : ¬ j = k := fun z => hak (by rw [haj, z])
            rw [if_neg hjk, List.find?_cons_of_pos (by simp [haj]), List.find?_cons_of_pos (by simp [haj])]
          · rw [List.find?_cons_of_neg (by simp [haj]), ih]
            by_cases hjk : j = k
            · rw [if_pos hjk, if_pos hjk, List.find?_cons_of_neg (by simp [hak])]
            · rw [if_neg hjk, if_neg hjk, List.find?_cons_of_neg (by simp [haj])]
    rw [key]
    by_cases hjk : j = k
    · rw [if_pos hjk, if_pos hjk, hg]; rfl
    · rw [if_neg hjk, if_neg hjk]
theorem dput_len {kvs : List (Int × D)} {k : Int} {d : D} : (dput kvs k d).length ≤ kvs.length + 1 := by
  unfold dput
  split
  · rw [List.length_map]; omega
  · rw [List.length_append]; exact Nat.le_refl _
/-! pairs, spoilt -/
theorem prodP_mid {l r : List (Int × Int)} {q t : Int} : prodP (l ++ (q, t) :: r) = q ^ t.toNat * prodP (l ++ r) := by
  rw [prodP_append, prodP_append, prodP, ← Int.mul_assoc, Int.mul_comm (prodP l), Int.mul_assoc]
theorem prodP_less {l r : List (Int × Int)} {x : Int × Int} (h : ∀ p ∈ l ++ x :: r, 2 ≤ p.1) : prodP (l ++ r) ≤ prodP (l ++ x :: r) := by
  obtain ⟨q, t⟩ := x
  rw [prodP_mid]
  have h1 := prodP_pos (l ++ r) fun p hp => h p (by rcases List.mem_append.mp hp with z | z <;> simp [z])
  have q2 : 2 ≤ q := h (q, t) (by simp)
  have h3 : (0 : Int) < q ^ t.toNat := Int.pow_pos (by omega)
  have : 1 * prodP (l ++ r) ≤ q ^ t.toNat * prodP (l ++ r) := Int.mul_le_mul_of_nonneg_right (by omega) (by omega)
  omega
theorem pow_1500 {q t : Int} (q0 : 2 ≤ q) (q1 : q ≤ 32768) (t1 : t ≤ 100) : q ^ t.toNat ≤ 2 ^ 1500 := by
  have h1 : q ^ t.toNat ≤ 32768 ^ t.toNat := ipow_le_l (by omega) (by omega) _
  have h2 : (32768 : Int) ^ t.toNat ≤ 32768 ^ 100 := ipow_le_r (by decide) (by omega)
  have h3 : (32768 : Int) ^ 100 = 2 ^ 1500 := by decide +kernel
  omega
theorem prod_more {g : Nat} {l r : List (Int × Int)} {q t : Int} (h2 : ∀ p ∈ l ++ r, 2 ≤ p.1) (h : prodP (l ++ r) < 2 ^ (100 + 1500 * g)) (q0 : 2 ≤ q) (q1 : q ≤ 32768) (t1 : t ≤ 100) : prodP (l ++ (q, t) :: r) < 2 ^ (100 + 1500 * (g + 1)) := by
  rw [prodP_mid, show 100 + 1500 * (g + 1) = 1500 + (100 + 1500 * g) by omega, ipow_add]
  have h1 := prodP_pos (l ++ r) h2
  have h4 := pow_1500 q0 q1 t1
  have h5 : q ^ t.toNat * prodP (l ++ r) ≤ 2 ^ 1500 * prodP (l ++ r) := Int.mul_le_mul_of_nonneg_right h4 (by omega)
  exact Int.lt_of_le_of_lt h5 (Int.mul_lt_mul_of_pos_left h (by decide +kernel))
theorem PwG.put {g : Nat} {l r : List (Int × Int)} {x : Int × Int} {t : Int} (h : PwG g (l ++ x :: r)) (hg : g ≤ 100) (t0 : 1 ≤ t) (t1 : t ≤ 100) : PwG (g + 1) (l ++ (x.1, t) :: r) := by
  have hx := h.q x (by simp)
  have mem : ∀ p ∈ l ++ (x.1, t) :: r, p = (x.1, t) ∨ p ∈ l ++ x :: r := fun p hp => by
    rcases List.mem_append.mp hp with z | z
    · exact .inr (List.mem_append_left _ z)
    · rcases List.mem_cons.mp z with z | z
      · exact .inl z
      · exact .inr (List.mem_append_right _ (List.mem_cons_of_mem _ z))
  refine ⟨fun p hp => ?_, fun p hp => ?_, ?_, by simp, ?_, ?_⟩
  · rcases mem p hp with rfl | z
    · exact ⟨hx.1, by show x.1 ≤ _; omega⟩
    · have := h.q p z
      exact ⟨this.1, by omega⟩
  · rcases mem p hp with rfl | z
    · exact ⟨t0, t1⟩
    · exact h.t p z
  · have := h.up
    rw [List.pairwise_append, List.pairwise_cons] at this ⊢
    exact ⟨this.1, ⟨this.2.1.1, this.2.1.2⟩, fun a ha b hb => by
      rcases List.mem_cons.mp hb with rfl | hb
      · exact this.2.2 a ha x List.mem_cons_self
      · exact this.2.2 a ha b (List.mem_cons_of_mem _ hb)⟩
  · have := h.len
    simp only [List.length_append, List.length_cons] at this ⊢
    omega
  · refine prod_more (fun p hp => (h.q p (by rcases List.mem_append.mp hp with z | z <;> simp [z])).1) (Int.lt_of_le_of_lt (prodP_less fun p hp => (h.q p hp).1) h.prod) hx.1 (by omega) t1
theorem PwG.cut {g : Nat} {l r : List (Int × Int)} {x : Int × Int} (h : PwG g (l ++ x :: r)) (hn : l ++ r ≠ []) : PwG g (l ++ r) := by
  have mem : ∀ p ∈ l ++ r, p ∈ l ++ x :: r := fun p hp => by rcases List.mem_append.mp hp with z | z <;> simp [z]
  refine ⟨fun p hp => h.q p (mem p hp), fun p hp => h.t p (mem p hp), ?_, hn, ?_, Int.lt_of_le_of_lt (prodP_less fun p hp => (h.q p hp).1) h.prod⟩
  · have := h.up
    rw [List.pairwise_append, List.pairwise_cons] at this
    rw [List.pairwise_append]
    exact ⟨this.1, this.2.1.2, fun a ha b hb => this.2.2 a ha b (List.mem_cons_of_mem _ hb)⟩
  · have := h.len
    simp only [List.length_append, List.length_cons] at this ⊢
    omega
theorem PwG.app {g : Nat} {l : List (Int × Int)} {x : Int × Int} {m : Int} (h : PwG g (l ++ [x])) (hg : g ≤ 100) (m0 : 0 ≤ m) (m1 : m < 9) : PwG (g + 1) ((l ++ [x]) ++ [(x.1 + 1 + m, 1)]) := by
  have hx := h.q x (by simp)
  refine ⟨fun p hp => ?_, fun p hp => ?_, ?_, by simp, ?_, ?_⟩
  · rcases List.mem_append.mp hp with z | z
    · have := h.q p z
      exact ⟨this.1, by omega⟩
    · rw [List.mem_singleton.mp z]
      exact ⟨by show 2 ≤ x.1 + 1 + m; omega, by show x.1 + 1 + m ≤ _; omega⟩
  · rcases List.mem_append.mp hp with z | z
    · exact h.t p z
    · rw [List.mem_singleton.mp z]
      exact ⟨Int.le_refl 1, show (1 : Int) ≤ 100 by decide⟩
  · rw [List.pairwise_append]
    refine ⟨h.up, List.pairwise_singleton _ _, fun a ha b hb => ?_⟩
    rw [List.mem_singleton.mp hb]
    show a.1 < x.1 + 1 + m
    rcases List.mem_append.mp ha with z | z
    · have := h.up
      rw [List.pairwise_append] at this
      have := this.2.2 a z x (by simp)
      omega
    · rw [List.mem_singleton.mp z]
      omega
  · have := h.len
    rw [List.length_append, List.length_singleton]
    omega
  · refine prod_more (r := []) (fun p hp => (h.q p (by simpa using hp)).1) (by rw [List.append_nil]; exact h.prod) (by omega) (by omega) (by decide)
theorem pairs_of {ps : List (Int × Int)} {i : Nat} (h : i < ps.length) : ps = ps.take i ++ ps[i] :: ps.drop (i + 1) := by
  rw [← List.drop_eq_getElem_cons h, List.take_append_drop]
/-- a row with its number one more -/
theorem sr_more {g : Nat} {d : D} (s : SR g d) : ∃ (p : Int) (w : List Nat) (fs : D), d = .tup [.int p, .str w, fs] ∧ SR (g + 1) (.tup [.int (p + 1), .str w, fs]) := by
  cases s with
  | first a b => exact ⟨_, _, _, rfl, .first (by omega) (by omega)⟩
  | prime a b c d e => exact ⟨_, _, _, rfl, .prime (by omega) (by omega) c d (e.more (by omega))⟩
  | split a b c d e f => exact ⟨_, _, _, rfl, .split (by omega) (by omega) c (by omega) e (by omega)⟩
  | power a b c d => exact ⟨_, _, _, rfl, .power (by omega) (by omega) c d⟩
  | root a b c d => exact ⟨_, _, _, rfl, .root (by omega) (by omega) c d⟩
/-- a slip's rows, spoilt g times -/
structure RL (g : Nat) (rs : List D) : Prop where
  sr : ∀ d ∈ rs, SR g d
  up : rs.Pairwise fun a b => headI a < headI b
  ne : rs ≠ []
theorem RL.more {g h : Nat} {rs : List D} (r : RL g rs) (hg : g ≤ h) : RL h rs := ⟨fun d hd => (r.sr d hd).more hg, r.up, r.ne⟩
theorem RL.take {g : Nat} {rs : List D} (r : RL g rs) {k : Nat} (hk : 1 ≤ k) : RL g (rs.take k) := by
  refine ⟨fun d hd => r.sr d (List.mem_of_mem_take hd), r.up.sublist (List.take_sublist _ _), fun e => r.ne ?_⟩
  cases rs with
  | nil => rfl
  | cons a l =>
    obtain ⟨j, rfl⟩ : ∃ j, k = j + 1 := ⟨k - 1, by omega⟩
    rw [List.take_succ_cons] at e
    cases e
/-- one row gone -/
theorem RL.less {g : Nat} {l r : List D} {x : D} (h : RL g (l ++ x :: r)) (hn : l ++ r ≠ []) : RL g (l ++ r) := by
  refine ⟨fun p hp => h.sr p (by rcases List.mem_append.mp hp with z | z <;> simp [z]), ?_, hn⟩
  have := h.up
  rw [List.pairwise_append, List.pairwise_cons] at this
  rw [List.pairwise_append]
  exact ⟨this.1, this.2.1.2, fun a ha b hb => this.2.2 a ha b (List.mem_cons_of_mem _ hb)⟩
/-- another row in one's place -/
theorem RL.put {g : Nat} {l r : List D} {x y : D} (h : RL g (l ++ x :: r)) (hy : SR (g + 1) y) (h1 : headI x ≤ headI y) (h2 : ∀ z ∈ r.head?, headI y < headI z) : RL (g + 1) (l ++ [y] ++ r) := by
  have up := h.up
  rw [List.pairwise_append, List.pairwise_cons] at up
  obtain ⟨u1, ⟨u2, u3⟩, u4⟩ := up
  have hr : ∀ z ∈ r, headI y < headI z := fun z hz => by
    cases r with
    | nil => cases hz
    | cons a r =>
      have ha := h2 a (by simp)
      rw [List.pairwise_cons] at u3
      rcases List.mem_cons.mp hz with rfl | hz
      · exact ha
      · have := u3.1 z hz
        omega
  refine ⟨fun p hp => ?_, ?_, by simp⟩
  · rw [List.append_assoc] at hp
    rcases List.mem_append.mp hp with z | z
    · exact (h.sr p (by simp [z])).more (by omega)
    · rcases List.mem_cons.mp z with rfl | z
      · exact hy
      · exact (h.sr p (by simp [show p ∈ r from z])).more (by omega)
  · rw [List.append_assoc, List.pairwise_append]
    refine ⟨u1, List.pairwise_cons.mpr ⟨hr, u3⟩, fun a ha b hb => ?_⟩
    have hx := u4 a ha x List.mem_cons_self
    rcases List.mem_cons.mp hb with rfl | hb
    · omega
    · have := hr b hb
      omega
theorem Good.rl {rs : List D} (h : Good rs) (hn : rs ≠ []) : RL 0 rs := ⟨fun d hd => gr_sr (h.gr d hd), h.up, hn⟩
/-! ### data that is the same -/
mutual
def plB : D → Bool
  | .non => true
  | .bool _ => true
  | .int _ => true
  | .str _ => true
  | .tup ds => plBs ds
  | _ => false
def plBs : List D → Bool
  | [] => true
  | d :: ds => plB d && plBs ds
end
mutual
theorem resF_pl (f : Nat → Option D) : ∀ d : D, plB d = true → resF f d = some d
  | .non, _ => rfl
  | .bool _, _ => rfl
  | .int _, _ => rfl
  | .str _, _ => rfl
  | .tup ds, h => by
    rw [plB] at h
    rw [resF, resFs_pl f ds h]
  | .lv _, h => by rw [plB] at h <;> first | cases h | (intros; contradiction)
  | .ref _, h => by rw [plB] at h <;> first | cases h | (intros; contradiction)
  | .exc _ _, h => by rw [plB] at h <;> first | cases h | (intros; contradiction)
  | .kl _, h => by rw [plB] at h <;> first | cases h | (intros; contradiction)
theorem resFs_pl (f : Nat → Option D) : ∀ ds : List D, plBs ds = true → resFs f ds = some ds
  | [], _ => rfl
  | d :: ds, h => by
    rw [plBs, Bool.and_eq_true] at h
    rw [resFs, resF_pl f d h.1, resFs_pl f ds h.2]
end
mutual
theorem eqv_pl : ∀ d : D, plB d = true → eqv d d = true
  | .non, _ => rfl
  | .bool b, _ => by cases b <;> rfl
  | .int i, _ => by rw [eqv]; exact beq_self_eq_true i
  | .str s, _ => by rw [eqv]; exact beq_self_eq_true s
  | .tup ds, h => by
    rw [plB] at h
    rw [eqv]
    exact eqvs_pl ds h
  | .lv _, h => by rw [plB] at h <;> first | cases h | (intros; contradiction)
  | .ref _, h => by rw [plB] at h <;> first | cases h | (intros; contradiction)
  | .exc _ _, h => by rw [plB] at h <;> first | cases h | (intros; contradiction)
  | .kl _, h => by rw [plB] at h <;> first | cases h | (intros; contradiction)
theorem eqvs_pl : ∀ ds : List D, plBs ds = true → eqvs ds ds = true
  | [], _ => rfl
  | d :: ds, h => by
    rw [plBs, Bool.and_eq_true] at h
    rw [eqvs, eqv_pl d h.1, eqvs_pl ds h.2]
    rfl
end
theorem plBs_of {ds : List D} (h : ∀ d ∈ ds, plB d = true) : plBs ds = true := by
  induction ds with
  | nil => rfl
  | cons d r ih => rw [plBs, h d List.mem_cons_self, ih fun e he => h e (List.mem_cons_of_mem _ he)]; rfl
theorem plB_tup {ds : List D} (h : ∀ d ∈ ds, plB d = true) : plB (.tup ds) = true := by rw [plB]; exact plBs_of h
theorem FR.pl {d : D} (g : FR d) : plB d = true := by
  cases g with
  | first => rfl
  | split => rfl
  | power => rfl
  | root => rfl
  | @prime n b ps =>
    have : plBs (ps.map pairD) = true := plBs_of fun d hd => by
      obtain ⟨x, _, rfl⟩ := List.mem_map.mp hd
      rfl
    show (true && (true && ((true && (plBs (ps.map pairD) && true)) && true))) = true
    rw [this]
    rfl
theorem Th.okN {M : MS} {j k : Nat} {d : D} (t : Th M j k d) (h : plB d = true) : Sl.okN k d = true := by
  obtain ⟨r, h1, h2⟩ := t
  rw [resF_pl _ d h] at h1
  cases h1
  exact h2
section
variable {M : MS} {R : Bool → Prop} {d : D} {j : Nat}
theorem wEq_self (h : plB d = true) (t : Th M j 60 d) (r : R true) : wEq d d M R := by
  unfold wEq
  split
  · rw [eqv_pl d h]; exact r
  · unfold res
    rw [resF_pl _ d h]
    exact ⟨t.okN h, t.okN h, by rw [eqv_pl d h]; exact r⟩
theorem x_eqSelf (h : plB d = true) (t : Th M j 60 d) (r : R true) : cmp2 .eq d d M R := wEq_self h t r
theorem x_neSelf (h : plB d = true) (t : Th M j 60 d) (r : R false) : cmp2 .ne d d M R := wEq_self (R := fun b => R (!b)) h t r
theorem wEq_lst {a b : Nat} {ds : List D} (ha : M[a]? = some (.lst ds)) (hb : M[b]? = some (.lst ds)) (h : ∀ d ∈ ds, plB d = true) (t : ∀ d ∈ ds, Th M j 59 d) (r : R true) : wEq (.ref a) (.ref b) M R := by
  have ra : ∀ a, M[a]? = some (.lst ds) → res M (.ref a) = some (.lv ds) := fun a ha => by
    unfold res
    rw [resF, resN, ha]
    dsimp only
    rw [resFs_pl _ ds (plBs_of h)]
  have ok : Sl.okN 60 (.lv ds) = true := by
    rw [Sl.okN, List.all_eq_true]
    exact fun d hd => (t d hd).okN (h d hd)
  unfold wEq
  rw [if_neg (fun z => Bool.noConfusion z.1), ra a ha, ra b hb]
  refine ⟨ok, ok, ?_⟩
  rw [eqv, eqvs_pl ds (plBs_of h)]
  exact r
theorem x_eqLst {a b : Nat} {ds : List D} (ha : M[a]? = some (.lst ds)) (hb : M[b]? = some (.lst ds)) (h : ∀ d ∈ ds, plB d = true) (t : ∀ d ∈ ds, Th M j 59 d) (r : R true) : cmp2 .eq (.ref a) (.ref b) M R := wEq_lst ha hb h t r
theorem x_neLst {a b : Nat} {ds : List D} (ha : M[a]? = some (.lst ds)) (hb : M[b]? = some (.lst ds)) (h : ∀ d ∈ ds, plB d = true) (t : ∀ d ∈ ds, Th M j 59 d) (r : R false) : cmp2 .ne (.ref a) (.ref b) M R := wEq_lst (R := fun b => R (!b)) ha hb h t r
theorem x_isntB {a b : Bool} (r : R (!(a == b))) : cmp2 .isnot (.bool a) (.bool b) M R := r
theorem x_isB {a b : Bool} (r : R (a == b)) : cmp2 .is_ (.bool a) (.bool b) M R := r
end
/-- one key and its value -/
def dic1 (x y : D) (M : MS) (Q : VQ) : Prop := match x with
  | .int i => Q (.ref M.length) (M ++ [.dict [(i, y)]])
  | _ => False
theorem x_dict1 {O : Oracle} {a b : LE} {σ : Loc} {M : MS} {Q : VQ} {E : XQ} (h : wE O a σ M (fun x M1 => wE O b σ M1 (fun y M2 => dic1 x y M2 Q) E) E) : wE O (.dict1 a b) σ M Q E := by rw [wE]; exact h
theorem x_dic1 {i : Int} {y : D} {M : MS} {Q : VQ} (h : Q (.ref M.length) (M ++ [.dict [(i, y)]])) : dic1 (.int i) y M Q := h
theorem x_revlL {n : Nat} {ds : List D} {M : MS} {Q : VQ} (hM : M[n]? = some (.lst ds)) (h : Q (.ref M.length) (M ++ [.lst ds.reverse])) : revl2 (.ref n) M Q := by
  simp only [revl2, hM]
  exact h
theorem x_joinA {O : Oracle} {b : LE} {s t : LS} {σ σ2 σ3 : Loc} {M : MS} {E : XQ} {nx : Loc → MS → Prop} {rt : VQ} {ex : Exn → Loc → MS → Prop} {x : D} {B : Prop} (J : Loc → MS → Prop) (hJ : ∀ σ' M', J σ' M' → nx σ' M')
    (h : (∀ σ' M', J σ' M' → nx σ' M') → brn x (wE O b σ M (fun d M1 => brn d (wS O s σ2 M1 ⟨nx, rt, ex⟩) (wS O t σ3 M1 ⟨nx, rt, ex⟩)) E) B) :
    brn x (wE O b σ M (fun d M1 => brn d (wS O s σ2 M1 ⟨nx, rt, ex⟩) (wS O t σ3 M1 ⟨nx, rt, ex⟩)) E) B := h hJ
theorem atI_last {rs : List D} {d : D} : atI (rs ++ [d]) ((rs ++ [d]).length - 1) = some d := by
  have : (((rs ++ [d]).length : Int) - 1) = (rs.length : Nat) := by rw [List.length_append, show [d].length = 1 from rfl]; omega
  rw [this, atI_nat, List.getElem?_append_right (Nat.le_refl _), Nat.sub_self]
  rfl
end Sl
/-! Prm: what rows that hold show: Euclid's lemma, Fermat's and Lucas's; a slip that is let by is so. -/
namespace Sl
theorem least_of {P : Nat → Prop} (h : ∃ n, P n) : ∃ n, P n ∧ ∀ m, m < n → ¬ P m := by
  obtain ⟨n, hn⟩ := h
  induction n using Nat.strongRecOn with
  | _ n ih =>
    by_cases e : ∃ m, m < n ∧ P m
    · obtain ⟨m, hm, pm⟩ := e
      exact ih m hm pm
    · exact ⟨n, hn, fun m hm pm => e ⟨m, hm, pm⟩⟩
theorem euclid {q a b : Int} (hq : Pri q) (h : q ∣ a * b) : q ∣ a ∨ q ∣ b := by
  by_cases ha : q ∣ a
  · exact .inl ha
  · refine .inr ?_
    have q2 := hq.1
    have cop : Nat.Coprime q.natAbs a.natAbs := by
      have h1 := Nat.gcd_dvd_left q.natAbs a.natAbs
      have h2 := Nat.gcd_dvd_right q.natAbs a.natAbs
      have g0 : 0 < Nat.gcd q.natAbs a.natAbs := Nat.gcd_pos_of_pos_left _ (by omega)
      show Nat.gcd q.natAbs a.natAbs = 1
      generalize Nat.gcd q.natAbs a.natAbs = g at *
      have gq : g ≤ q.natAbs := Nat.le_of_dvd (by omega) h1
      have cast : ∀ x : Int, g ∣ x.natAbs → (g : Int) ∣ x := fun x h => Int.natAbs_dvd_natAbs.mp (by rw [Int.natAbs_natCast]; exact h)
      have d1 : (g : Int) ∣ q := cast q h1
      rcases Nat.lt_or_ge g 2 with c | c
      · omega
      · by_cases e : (g : Int) = q
        · exact absurd (by rw [← e]; exact cast a h2) ha
        · exact absurd (Int.emod_eq_zero_of_dvd d1) (hq.2 g (by omega) (by omega))
    have h3 : q.natAbs ∣ a.natAbs * b.natAbs := by rw [← Int.natAbs_mul]; exact Int.natAbs_dvd_natAbs.mpr h
    exact Int.natAbs_dvd_natAbs.mp (Nat.Coprime.dvd_of_dvd_mul_left cop h3)
theorem pri_dvd_pow {q p : Int} (hq : Pri q) : ∀ t : Nat, q ∣ p ^ t → q ∣ p
  | 0, h => by
    rw [Int.pow_zero] at h
    have := Int.le_of_dvd (by decide) h
    have := hq.1
    omega
  | t + 1, h => by
    rw [Int.pow_succ] at h
    rcases euclid hq h with h | h
    · exact pri_dvd_pow hq t h
    · exact h
theorem pri_dvd_pri {q p : Int} (hq : Pri q) (hp : Pri p) (h : q ∣ p) : q = p := by
  have q2 := hq.1
  have p2 := hp.1
  have le := Int.le_of_dvd (by omega) h
  by_cases e : q = p
  · exact e
  · exact absurd (Int.emod_eq_zero_of_dvd h) (hp.2 q q2 (by omega))
theorem pri_dvd_prod {q : Int} (hq : Pri q) : ∀ ps : List (Int × Int), (∀ p ∈ ps, Pri p.1) → q ∣ prodP ps → ∃ p ∈ ps, p.1 = q
  | [], _, h => by
    rw [prodP] at h
    have := Int.le_of_dvd (by decide) h
    have := hq.1
    omega
  | (p, t) :: r, hp, h => by
    rw [prodP] at h
    rcases euclid hq h with h | h
    · exact ⟨(p, t), List.mem_cons_self, (pri_dvd_pri hq (hp (p, t) List.mem_cons_self) (pri_dvd_pow hq _ h)).symm⟩
    · obtain ⟨x, hx, e⟩ := pri_dvd_prod hq r (fun p hp' => hp p (List.mem_cons_of_mem _ hp')) h
      exact ⟨x, List.mem_cons_of_mem _ hx, e⟩
/-- a number from 2 on has a prime that divides it -/
theorem some_pri {n : Nat} (h : 2 ≤ n) : ∃ q : Nat, Pri (q : Int) ∧ q ∣ n := by
  obtain ⟨q, ⟨q2, hq⟩, hl⟩ := least_of (P := fun q => 2 ≤ q ∧ q ∣ n) ⟨n, h, Nat.dvd_refl n⟩
  refine ⟨q, ⟨by omega, fun k k0 k1 hk => ?_⟩, hq⟩
  obtain ⟨m, rfl⟩ := Int.eq_ofNat_of_zero_le (show 0 ≤ k by omega)
  refine hl m (by omega) ⟨by omega, Nat.dvd_trans ?_ hq⟩
  exact Int.natCast_dvd_natCast.mp (Int.dvd_of_emod_eq_zero hk)
/-! powers by a number -/
theorem pw_mul {b n : Int} {i j : Nat} : b ^ (i + j) % n = (b ^ i % n) * (b ^ j % n) % n := by rw [ipow_add, Int.mul_emod]
theorem pw_one {b n : Int} {d : Nat} (h : b ^ d % n = 1) (hn : 2 ≤ n) : ∀ c : Nat, b ^ (d * c) % n = 1
  | 0 => by rw [Nat.mul_zero, Int.pow_zero]; exact Int.emod_eq_of_lt (by decide) (by omega)
  | c + 1 => by rw [Nat.mul_succ, pw_mul, h, pw_one h hn c]; exact Int.emod_eq_of_lt (by decide) (by omega)
/-- the order of a base that comes round divides each exponent at which it comes round -/
theorem ord_dvd {b n : Int} (hn : 2 ≤ n) {d N : Nat} (d0 : 0 < d) (hd : b ^ d % n = 1) (hl : ∀ m, m < d → ¬ (0 < m ∧ b ^ m % n = 1)) (hN : b ^ N % n = 1) : d ∣ N := by
  have e : N = d * (N / d) + N % d := (Nat.div_add_mod N d).symm
  have h1 : b ^ (N % d) % n = 1 := by
    rw [e, pw_mul, pw_one hd hn, Int.one_mul, Int.emod_emod_of_dvd _ (Int.dvd_refl n)] at hN
    exact hN
  have h2 : N % d < d := Nat.mod_lt _ d0
  by_cases h3 : N % d = 0
  · exact Nat.dvd_of_mod_eq_zero h3
  · exact absurd ⟨by omega, h1⟩ (hl _ h2)
theorem nodup_map {α β : Type} {f : α → β} : ∀ {l : List α}, l.Nodup → (∀ x ∈ l, ∀ y ∈ l, f x = f y → x = y) → (l.map f).Nodup
  | [], _, _ => .nil
  | a :: r, h, hf => by
    rw [List.nodup_cons] at h
    rw [List.map_cons, List.nodup_cons]
    refine ⟨fun hm => ?_, nodup_map h.2 fun x hx y hy => hf x (List.mem_cons_of_mem _ hx) y (List.mem_cons_of_mem _ hy)⟩
    obtain ⟨y, hy, e⟩ := List.mem_map.mp hm
    have := hf y (List.mem_cons_of_mem _ hy) a List.mem_cons_self e
    subst this
    exact h.1 hy
/-- 1 to n - 1 -/
def upTo (n : Int) : List Int := (List.range (n - 1).toNat).map fun (k : Nat) => 1 + (k : Int)
theorem upTo_mem {n x : Int} : x ∈ upTo n ↔ 1 ≤ x ∧ x < n := by
  unfold upTo
  rw [List.mem_map]
  constructor
  · rintro ⟨k, hk, rfl⟩
    rw [List.mem_range] at hk
    omega
  · rintro ⟨h1, h2⟩
    exact ⟨(x - 1).toNat, List.mem_range.mpr (by omega), by omega⟩
theorem upTo_len {n : Int} : (upTo n).length = (n - 1).toNat := by unfold upTo; rw [List.length_map, List.length_range]
theorem upTo_nodup {n : Int} : (upTo n).Nodup := nodup_map List.nodup_range fun x _ y _ e => by omega
/-- a base whose order is one less than the number: the number is a prime -/
theorem pri_of_ord {b n : Int} (hn : 2 ≤ n) (h : b ^ (n - 1).toNat % n = 1) (hl : ∀ m, m < (n - 1).toNat → ¬ (0 < m ∧ b ^ m % n = 1)) : Pri n := by
  refine ⟨hn, fun k k0 k1 hk => ?_⟩
  have hz : ∀ i, i < (n - 1).toNat → 1 ≤ b ^ i % n ∧ b ^ i % n < n := fun i hi => by
    have a0 := Int.emod_nonneg (b ^ i) (show n ≠ 0 by omega)
    have a1 := Int.emod_lt_of_pos (b ^ i) (show 0 < n by omega)
    refine ⟨?_, a1⟩
    rcases Int.lt_or_le 0 (b ^ i % n) with c | c
    · omega
    · exfalso
      have e0 : b ^ i % n = 0 := by omega
      rw [show (n - 1).toNat = i + ((n - 1).toNat - i) by omega, pw_mul, e0, Int.zero_mul, Int.zero_emod] at h
      omega
  have nd : ((List.range (n - 1).toNat).map fun i => b ^ i % n).Nodup := by
    have key : ∀ i j : Nat, i < j → j < (n - 1).toNat → ¬ b ^ i % n = b ^ j % n := fun i j hij hj e => by
      refine hl (i + ((n - 1).toNat - j)) (by omega) ⟨by omega, ?_⟩
      rw [pw_mul, e, ← pw_mul, show j + ((n - 1).toNat - j) = (n - 1).toNat by omega]
      exact h
    refine nodup_map List.nodup_range fun i hi j hj e => ?_
    rw [List.mem_range] at hi hj
    rcases Nat.lt_trichotomy i j with c | c | c
    · exact absurd e (key i j c hj)
    · exact c
    · exact absurd e.symm (key j i c hi)
  have hm : k ∈ (List.range (n - 1).toNat).map fun i => b ^ i % n := by
    by_cases c : k ∈ (List.range (n - 1).toNat).map fun i => b ^ i % n
    · exact c
    · exfalso
      have := nodup_le (k :: (List.range (n - 1).toNat).map fun i => b ^ i % n) (upTo n) (List.nodup_cons.mpr ⟨c, nd⟩) fun x hx => by
        rw [upTo_mem]
        rcases List.mem_cons.mp hx with rfl | hx
        · omega
        · obtain ⟨i, hi, rfl⟩ := List.mem_map.mp hx
          exact hz i (List.mem_range.mp hi)
      rw [List.length_cons, List.length_map, List.length_range, upTo_len] at this
      omega
  obtain ⟨i, hi, e⟩ := List.mem_map.mp hm
  rw [List.mem_range] at hi
  have dn : k ∣ n := Int.dvd_of_emod_eq_zero hk
  have d1 : k ∣ b ^ i := by
    have : k ∣ b ^ i % n := by rw [e]; exact Int.dvd_refl k
    have e2 := Int.emod_add_mul_ediv (b ^ i) n
    rw [← e2]
    exact Int.dvd_add this (Int.dvd_mul_of_dvd_left dn)
  have d2 : k ∣ b ^ (n - 1).toNat := by
    rw [show (n - 1).toNat = i + ((n - 1).toNat - i) by omega, ipow_add]
    exact Int.dvd_mul_of_dvd_left d1
  have d3 : k ∣ b ^ (n - 1).toNat % n := by
    rw [Int.emod_def]
    exact Int.dvd_sub d2 (Int.dvd_mul_of_dvd_left dn)
  rw [h] at d3
  have := Int.le_of_dvd (by decide) d3
  omega
/-- Lucas: a base that comes round behind all below, and not before -/
theorem lucas {n b : Int} {ps : List (Int × Int)} (hn : 2 ≤ n) (hp : ∀ p ∈ ps, Pri p.1) (pr : prodP ps = n - 1) (h : Rnd n b ps) : Pri n := by
  by_cases n2 : n = 2
  · subst n2
    exact ⟨by decide, fun k k0 k1 => by omega⟩
  refine pri_of_ord hn h.1 fun m hm ⟨m0, hb⟩ => ?_
  obtain ⟨d, ⟨d0, hd⟩, hl⟩ := least_of (P := fun m => 0 < m ∧ b ^ m % n = 1) ⟨m, m0, hb⟩
  have dN := ord_dvd hn d0 hd hl h.1
  have dm : d ≤ m := by
    rcases Nat.lt_or_ge m d with c | c
    · exact absurd ⟨m0, hb⟩ (hl m c)
    · exact c
  obtain ⟨c, hc⟩ := dN
  have c2 : 2 ≤ c := by
    rcases Nat.lt_or_ge c 2 with z | z
    · have : d * c ≤ d * 1 := Nat.mul_le_mul_left d (by omega)
      omega
    · exact z
  obtain ⟨q, hq, e, he⟩ := some_pri c2
  subst he
  have q2 := hq.1
  have qd : (q : Int) ∣ prodP ps := by
    rw [pr, show n - 1 = (((n - 1).toNat : Nat) : Int) by omega, hc]
    exact Int.natCast_dvd_natCast.mpr (Nat.dvd_trans (Nat.dvd_mul_right q e) (Nat.dvd_mul_left _ d))
  obtain ⟨x, hx, ex⟩ := pri_dvd_prod hq ps hp qd
  refine h.2 x hx ?_
  have e3 : ((n - 1) / x.1).toNat = d * e := by
    rw [ex, show n - 1 = (((n - 1).toNat : Nat) : Int) by omega, hc, ← Int.natCast_ediv, Int.toNat_natCast, show d * (q * e) = q * (d * e) by rw [← Nat.mul_assoc, Nat.mul_comm d, Nat.mul_assoc]]
    exact Nat.mul_div_cancel_left _ (by omega)
  rw [e3]
  exact pw_one hd hn e
/-! Fermat -/
def prodL : List Int → Int
  | [] => 1
  | a :: r => a * prodL r
theorem prodL_erase {a : Int} : ∀ {l : List Int}, a ∈ l → prodL l = a * prodL (l.erase a)
  | [], h => by cases h
  | b :: r, h => by
    by_cases e : b = a
    · subst e
      rw [List.erase_cons_head]
      rfl
    · rw [List.erase_cons_tail (by simpa using e), prodL, prodL, prodL_erase (l := r) (by rcases List.mem_cons.mp h with z | z; exact absurd z.symm e; exact z), ← Int.mul_assoc, ← Int.mul_assoc, Int.mul_comm a b]
theorem prodL_same : ∀ (l m : List Int), l.Nodup → (∀ x ∈ l, x ∈ m) → m.length = l.length → prodL l = prodL m
  | [], m, _, _, h => by
    have : m = [] := List.eq_nil_of_length_eq_zero h
    rw [this]
  | a :: r, m, nd, hs, hl => by
    rw [List.nodup_cons] at nd
    have ha := hs a List.mem_cons_self
    rw [prodL_erase ha, prodL, prodL_same r (m.erase a) nd.2 (fun x hx => (List.mem_erase_of_ne (fun e => nd.1 (by rw [← e]; exact hx))).mpr (hs x (List.mem_cons_of_mem _ hx))) (by rw [List.length_erase_of_mem ha, hl, List.length_cons]; omega)]
theorem prodL_mod {b n : Int} : ∀ l : List Int, prodL (l.map fun x => x * b % n) % n = b ^ l.length * prodL l % n
  | [] => by rw [List.map_nil, List.length_nil, Int.pow_zero, Int.one_mul]
  | a :: r => by
    rw [List.map_cons, prodL, prodL, Int.mul_emod, prodL_mod r, Int.emod_emod_of_dvd _ (Int.dvd_refl n), ← Int.mul_emod, List.length_cons, Int.pow_succ]
    congr 1
    rw [Int.mul_comm a b, Int.mul_assoc b a, Int.mul_comm b, Int.mul_assoc (b ^ r.length) b, Int.mul_comm b, ← Int.mul_assoc a, Int.mul_comm a, ← Int.mul_assoc (b ^ r.length), ← Int.mul_assoc (b ^ r.length)]
theorem pri_dvd_prodL {q : Int} (hq : Pri q) : ∀ l : List Int, q ∣ prodL l → ∃ x ∈ l, q ∣ x
  | [], h => by
    rw [prodL] at h
    have := Int.le_of_dvd (by decide) h
    have := hq.1
    omega
  | a :: r, h => by
    rw [prodL] at h
    rcases euclid hq h with h | h
    · exact ⟨a, List.mem_cons_self, h⟩
    · obtain ⟨x, hx, e⟩ := pri_dvd_prodL hq r h
      exact ⟨x, List.mem_cons_of_mem _ hx, e⟩
theorem dvd_small {n x : Int} (h : n ∣ x) (h0 : -n < x) (h1 : x < n) : x = 0 := by
  rcases Int.lt_trichotomy x 0 with c | c | c
  · have := Int.le_of_dvd (by omega) (Int.dvd_neg.mpr h)
    omega
  · exact c
  · have := Int.le_of_dvd c h
    omega
theorem fermat {n b : Int} (hn : Pri n) (hb : ¬ n ∣ b) : b ^ (n - 1).toNat % n = 1 := by
  have n2 := hn.1
  have nd : ((upTo n).map fun x => x * b % n).Nodup := nodup_map upTo_nodup fun x hx y hy e => by
    rw [upTo_mem] at hx hy
    rw [Int.emod_eq_emod_iff_emod_sub_eq_zero, ← Int.sub_mul] at e
    rcases euclid hn (Int.dvd_of_emod_eq_zero e) with h | h
    · have := dvd_small h (by omega) (by omega)
      omega
    · exact absurd h hb
  have sub : ∀ x ∈ (upTo n).map fun x => x * b % n, x ∈ upTo n := fun x hx => by
    obtain ⟨y, hy, rfl⟩ := List.mem_map.mp hx
    rw [upTo_mem] at hy ⊢
    have a0 := Int.emod_nonneg (y * b) (show n ≠ 0 by omega)
    have a1 := Int.emod_lt_of_pos (y * b) (show 0 < n by omega)
    refine ⟨?_, a1⟩
    rcases Int.lt_or_le 0 (y * b % n) with c | c
    · omega
    · exfalso
      rcases euclid hn (Int.dvd_of_emod_eq_zero (show y * b % n = 0 by omega)) with h | h
      · have := Int.le_of_dvd (by omega) h
        omega
      · exact hb h
  have e1 := prodL_same _ (upTo n) nd sub (by rw [List.length_map])
  have e2 := prodL_mod (b := b) (n := n) (upTo n)
  rw [e1, upTo_len] at e2
  have e3 : prodL (upTo n) = 1 * prodL (upTo n) := (Int.one_mul _).symm
  have e4 := Int.emod_eq_emod_iff_emod_sub_eq_zero.mp e2.symm
  rw [show b ^ (n - 1).toNat * prodL (upTo n) - prodL (upTo n) = (b ^ (n - 1).toNat - 1) * prodL (upTo n) by rw [Int.sub_mul, Int.one_mul]] at e4
  rcases euclid hn (Int.dvd_of_emod_eq_zero e4) with h | h
  · rw [Int.emod_eq_emod_iff_emod_sub_eq_zero.mpr (Int.emod_eq_zero_of_dvd h)]
    exact Int.emod_eq_of_lt (by decide) (by omega)
  · exfalso
    obtain ⟨x, hx, hd⟩ := pri_dvd_prodL hn _ h
    rw [upTo_mem] at hx
    have := Int.le_of_dvd (by omega) hd
    omega
theorem no_root {n b : Int} (hn : Pri n) (h1 : 1 < b) (h2 : b < n - 1) : ¬ b * b % n = 1 := fun e => by
  have n2 := hn.1
  have e1 : (b * b - 1) % n = 0 := by
    have : b * b % n = 1 % n := by rw [e]; exact (Int.emod_eq_of_lt (by decide) (by omega)).symm
    exact Int.emod_eq_emod_iff_emod_sub_eq_zero.mp this
  rw [show b * b - 1 = (b - 1) * (b + 1) by rw [Int.mul_add, Int.sub_mul, Int.mul_one]; omega] at e1
  rcases euclid hn (Int.dvd_of_emod_eq_zero e1) with h | h
  · have := Int.le_of_dvd (by omega) h
    omega
  · have := Int.le_of_dvd (by omega) h
    omega
/-! ### what a row that holds shows -/
theorem row_base {n b : Int} {w : List Nat} (hw : w = sPower ∨ w = sRoot) (h : rowB (.tup [.int n, .str w, .tup [.int b]]) = true) : 1 ≤ b := by
  have h : (betw (.int n) 2 BND && factsB w [.int b]) = true := h
  rw [Bool.and_eq_true] at h
  have h2 := h.2
  have h3 : betw (.int b) 1 BND = true := by rcases hw with rfl | rfl <;> exact h2
  rw [betw, Bool.and_eq_true] at h3
  exact of_decide_eq_true h3.1
theorem row_parts {n a c : Int} (h : rowB (.tup [.int n, .str sSplit, .tup [.int a, .int c]]) = true) : 2 ≤ a ∧ 2 ≤ c := by
  have h : (betw (.int n) 2 BND && (betw (.int a) 2 BND && betw (.int c) 2 BND)) = true := h
  rw [Bool.and_eq_true, Bool.and_eq_true] at h
  have h1 := h.2.1
  have h2 := h.2.2
  rw [betw, Bool.and_eq_true] at h1 h2
  exact ⟨of_decide_eq_true h1.1, of_decide_eq_true h2.1⟩
theorem row_so {d : D} {prs : List Int} (r : RR d) (hp : ∀ p ∈ prs, Pri p) (h : holdsV d prs = true) : tellsV d = true ↔ Pri (headI d) := by
  obtain ⟨fr, row⟩ := r
  cases fr with
  | @first n n0 n1 =>
    have h : decide (n = 2) = true := h
    have e := of_decide_eq_true h
    subst e
    exact ⟨fun _ => ⟨by decide, fun k k0 k1 => by have k1 : k < 2 := k1; omega⟩, fun _ => rfl⟩
  | @prime n b ps n0 n1 b0 b1 f =>
    rw [holds_prime] at h
    unfold hPrime at h
    rw [Bool.and_eq_true, Bool.and_eq_true, Bool.and_eq_true, List.all_eq_true] at h
    obtain ⟨h1, h2, h3, h4⟩ := h
    refine ⟨fun _ => lucas (b := b) (ps := ps) n0 (fun p hp' => hp _ (of_decide_eq_true (h1 p hp'))) (of_decide_eq_true h2) (rndB_iff.mp h4), fun _ => rfl⟩
  | @split n a c n0 n1 a0 a1 c0 c1 =>
    have h : decide (a * c = n) = true := h
    have e := of_decide_eq_true h
    obtain ⟨a2, c2⟩ := row_parts row
    exact ⟨fun z => (by cases z), fun z => absurd z (not_pri_mul a2 c2 e)⟩
  | @power n b n0 n1 b0 b1 =>
    have h : (decide (b < n) && !decide (b ^ (n - 1).toNat % n = 1)) = true := h
    rw [Bool.and_eq_true, Bool.not_eq_true', decide_eq_false_iff_not] at h
    have b2 := row_base (.inl rfl) row
    have bn := of_decide_eq_true h.1
    refine ⟨fun z => (by cases z), fun z => absurd (fermat z fun hd => ?_) h.2⟩
    have : n ≤ b := Int.le_of_dvd (by omega) hd
    omega
  | @root n b n0 n1 b0 b1 =>
    have h : (decide (1 < b) && (decide (b < n - 1) && decide (b * b % n = 1))) = true := h
    rw [Bool.and_eq_true, Bool.and_eq_true] at h
    exact ⟨fun z => (by cases z), fun z => absurd (of_decide_eq_true h.2.2) (no_root z (of_decide_eq_true h.1) (of_decide_eq_true h.2.1))⟩
/-- a slip that is let by is so -/
theorem slip_so : ∀ (rs : List D) (k : Nat) (prs : List Int), (∀ d ∈ rs, RR d) → (∀ p ∈ prs, Pri p) → wrongV k rs prs = none → ∀ d ∈ rs, tellsV d = true ↔ Pri (headI d)
  | [], _, _, _, _, _ => fun _ h => (nomatch h)
  | a :: r, k, prs, hr, hp, h => by
    rw [wrongV] at h
    split at h
    · rename_i hh
      have ha := row_so (hr a List.mem_cons_self) hp hh
      intro d hd
      rcases List.mem_cons.mp hd with rfl | hd
      · exact ha
      · refine slip_so r (k + 1) _ (fun d hd => hr d (List.mem_cons_of_mem _ hd)) (fun p hp' => ?_) h d hd
        split at hp'
        · rename_i ht
          rcases List.mem_append.mp hp' with z | z
          · exact hp p z
          · rw [List.mem_singleton.mp z]
            exact ha.mp ht
        · exact hp p hp'
    · cases h
/-! dicts -/
theorem dput_old {kvs : List (Int × D)} {k : Int} {d e : D} (h : dget kvs k = some e) : dput kvs k d = kvs.map fun kv => if kv.1 = k then (kv.1, d) else kv := by
  unfold dput
  rw [if_pos (List.any_eq_true.mpr ⟨_, dget_mem h, decide_eq_true rfl⟩)]
theorem dput_mem {kvs : List (Int × D)} {k : Int} {d : D} {p : Int × D} (h : p ∈ dput kvs k d) : p = (k, d) ∨ p ∈ kvs ∧ p.1 ≠ k := by
  cases hg : dget kvs k with
  | none =>
    rw [dput_new hg] at h
    rcases List.mem_append.mp h with h | h
    · exact .inr ⟨h, dget_none.mp hg p h⟩
    · exact .inl (List.mem_singleton.mp h)
  | some e =>
    rw [dput_old hg] at h
    obtain ⟨x, hx, rfl⟩ := List.mem_map.mp h
    by_cases e : x.1 = k
    · rw [if_pos e, e]; exact .inl rfl
    · rw [if_neg e]; exact .inr ⟨hx, e⟩
theorem dput_keys {kvs : List (Int × D)} {k : Int} {d : D} : (dput kvs k d).map (·.1) = if k ∈ kvs.map (·.1) then kvs.map (·.1) else kvs.map (·.1) ++ [k] := by
  cases hg : dget kvs k with
  | none =>
    rw [dput_new hg, if_neg fun h => ?_, List.map_append]
    · rfl
    · obtain ⟨p, hp, e⟩ := List.mem_map.mp h
      exact dget_none.mp hg p hp e
  | some e =>
    rw [dput_old hg, if_pos (List.mem_map.mpr ⟨_, dget_mem hg, rfl⟩), List.map_map]
    exact List.map_congr_left fun p _ => by
      show (if p.1 = k then (p.1, d) else p).1 = p.1
      split <;> rfl
theorem dput_nodup {kvs : List (Int × D)} {k : Int} {d : D} (h : (kvs.map (·.1)).Nodup) : ((dput kvs k d).map (·.1)).Nodup := by
  rw [dput_keys]
  split
  · exact h
  · rename_i hk
    rw [List.nodup_append]
    exact ⟨h, List.nodup_cons.mpr ⟨fun h => (nomatch h), List.nodup_nil⟩, fun a ha b hb e => by rw [List.mem_singleton.mp hb] at e; subst e; exact hk ha⟩
theorem dget_nodup {kvs : List (Int × D)} (h : (kvs.map (·.1)).Nodup) {p : Int × D} (hp : p ∈ kvs) : dget kvs p.1 = some p.2 := by
  induction kvs with
  | nil => cases hp
  | cons a r ih =>
    rw [List.map_cons, List.nodup_cons] at h
    unfold dget at ih ⊢
    rcases List.mem_cons.mp hp with rfl | hp
    · rw [List.find?_cons_of_pos (by simp)]; rfl
    · have : a.1 ≠ p.1 := fun e => h.1 (by rw [e]; exact List.mem_map.mpr ⟨p, hp, rfl⟩)
      rw [List.find?_cons_of_neg (by simpa using this)]
      exact ih h.2 hp
/-- a dict's values by rising keys -/
def vals (kvs : List (Int × D)) (ks : List Int) : List D := ks.map fun k => (dget kvs k).getD .non
theorem vals_mem {kvs : List (Int × D)} {ks : List Int} (hp : ks.Perm (kvs.map (·.1))) {d : D} (h : d ∈ vals kvs ks) : ∃ k ∈ ks, (k, d) ∈ kvs := by
  obtain ⟨k, hk, rfl⟩ := List.mem_map.mp h
  obtain ⟨e, h1, h2⟩ := dget_in (hp.mem_iff.mp hk)
  refine ⟨k, hk, ?_⟩
  show (k, (dget kvs k).getD .non) ∈ kvs
  rw [h1]
  exact h2
theorem up_of {kvs : List (Int × D)} {ks : List Int} (hp : ks.Perm (kvs.map (·.1))) (hs : ks.Pairwise (· ≤ ·)) (nd : (kvs.map (·.1)).Nodup) : ks.Pairwise (· < ·) := by
  have nd : ks.Nodup := hp.nodup_iff.mpr nd
  exact (hs.and nd).imp fun {a b} h => by have := h.1; have := h.2; omega
theorem vals_up {kvs : List (Int × D)} {ks : List Int} (hp : ks.Perm (kvs.map (·.1))) (hs : ks.Pairwise (· ≤ ·)) (nd : (kvs.map (·.1)).Nodup) (hh : ∀ p ∈ kvs, headI p.2 = p.1) : (vals kvs ks).Pairwise fun a b => headI a < headI b := by
  have up := up_of hp hs nd
  have hd : ∀ k ∈ ks, headI ((dget kvs k).getD .non) = k := fun k hk => by
    obtain ⟨e, h1, h2⟩ := dget_in (hp.mem_iff.mp hk)
    rw [h1]
    exact hh _ h2
  have : ∀ l : List Int, (∀ k ∈ l, k ∈ ks) → l.Pairwise (· < ·) → (l.map fun k => (dget kvs k).getD .non).Pairwise fun a b => headI a < headI b := by
    intro l
    induction l with
    | nil => exact fun _ _ => .nil
    | cons a r ih =>
      intro h1 h2
      rw [List.pairwise_cons] at h2
      rw [List.map_cons, List.pairwise_cons]
      refine ⟨fun b hb => ?_, ih (fun k hk => h1 k (List.mem_cons_of_mem _ hk)) h2.2⟩
      obtain ⟨k, hk, rfl⟩ := List.mem_map.mp hb
      rw [hd a (h1 a List.mem_cons_self), hd k (h1 k (List.mem_cons_of_mem _ hk))]
      exact h2.1 k hk
  exact this ks (fun _ h => h) up
/-- [by[k] for k in sorted(by)] -/
theorem x_rows {O : Oracle} {i v n : Nat} {σ : Loc} {kvs : List (Int × D)} {M : MS} {Q : VQ} {E : XQ} (h0 : σ[i]? = some (some (.ref n))) (hv : v < σ.length) (hi : i ≠ v) (hM : M[n]? = some (.dict kvs)) (hl : kvs.length ≤ lim)
    (q : ∀ (ks : List Int) (m : Nat) (M' : MS), ks.Perm (kvs.map (·.1)) → ks.Pairwise (· ≤ ·) → Gr M M' → M.length ≤ m → M'[m]? = some (.lst (vals kvs ks)) → Q (.ref m) M') :
    wE O (.comp [v] .lst (.cons (.bi .sorted (.cons (.var i) .nil)) .nil) (.name v) (.con (.bool true)) (.idx (.var i) (.var v))) σ M Q E := by
  refine x_comp (x_cons (x_bi (x_cons (x_var h0 (x_nil (x_sortD hM fun ks hp hs => x_nil (x_wkL (lst_end _ _) ?_)))))))
  have hmem : ∀ k, k ∈ ks ↔ k ∈ kvs.map (·.1) := fun k => hp.mem_iff
  have hkl : ks.length = kvs.length := by rw [hp.length_eq, List.length_map]
  dsimp only [Hold.start, wipe]
  refine turns_all (fun d => (dget kvs (intOf d)).getD .non) (by rw [List.length_map]; omega) (lst_end _ _) ?_ ?_
  · intro d hd'
    obtain ⟨k, hk, rfl⟩ := List.mem_map.mp hd'
    obtain ⟨r, hr, _⟩ := dget_in ((hmem k).mp hk)
    refine ⟨_, rfl, fun R r => x_con r, fun R r' => ?_⟩
    refine x_idx (x_var (d := .ref n) ?_ (x_var (d := .int k) ?_ (x_ixD (Gr.app _ _ _ _ hM) hr ?_)))
    · rw [List.getElem?_set_ne (Ne.symm hi), List.getElem?_set_ne (Ne.symm hi)]
      exact h0
    · rw [List.getElem?_set_self (by rw [List.length_set]; exact hv)]
    · have e : (dget kvs (intOf (.int k))).getD .non = r := by
        show (dget kvs k).getD .non = r
        rw [hr]
        rfl
      rw [e] at r'
      exact r'
  · rw [List.map_map]
    exact q ks _ _ hp hs ((Gr.app _ _).trans (Gr.app _ _)) (by rw [List.length_append]; omega) (lst_end _ _)
end Sl
/-! Lay: slips laid together, in plain words. -/
namespace Sl
def sortI (l : List Int) : List Int := l.mergeSort fun a b => decide (a ≤ b)
theorem sortI_perm (l : List Int) : (sortI l).Perm l := List.mergeSort_perm _ _
theorem sortI_sort (l : List Int) : (sortI l).Pairwise (· ≤ ·) :=
  (List.pairwise_mergeSort (le := fun a b => decide (a ≤ b)) (fun a b c h1 h2 => decide_eq_true (by have := of_decide_eq_true h1; have := of_decide_eq_true h2; omega)) (fun a b => by
    rw [Bool.or_eq_true]
    rcases Int.le_total a b with h | h
    · exact .inl (decide_eq_true h)
    · exact .inr (decide_eq_true h)) l).imp fun h => of_decide_eq_true h
theorem sortI_uniq {l ks : List Int} (h : ks.Perm l) (hs : ks.Pairwise (· ≤ ·)) : ks = sortI l :=
  List.Perm.eq_of_pairwise (le := (· ≤ ·)) (fun a b _ _ h1 h2 => by omega) hs (sortI_sort l) (h.trans (sortI_perm l).symm)
/-- a dict's values by rising keys -/
def rowsV (kvs : List (Int × D)) : List D := vals kvs (sortI (kvs.map (·.1)))
def lay1 (kvs : List (Int × D)) (d : D) : List (Int × D) := if (dget kvs (headI d)).isSome = true then kvs else dput kvs (headI d) d
def layR (kvs : List (Int × D)) (rs : List D) : List (Int × D) := rs.foldl lay1 kvs
def layS (kvs : List (Int × D)) (ss : List (List D)) : List (Int × D) := ss.foldl layR kvs
theorem lay1_len {kvs : List (Int × D)} {d : D} : (lay1 kvs d).length ≤ kvs.length + 1 := by
  unfold lay1
  split
  · omega
  · exact dput_len
theorem layR_len : ∀ (rs : List D) (kvs : List (Int × D)), (layR kvs rs).length ≤ kvs.length + rs.length
  | [], kvs => Nat.le_refl _
  | d :: r, kvs => by
    have h1 := layR_len r (lay1 kvs d)
    have h2 := @lay1_len kvs d
    show (layR (lay1 kvs d) r).length ≤ _
    rw [List.length_cons]
    omega
/-- what holds of all that is laid -/
structure LayOk (P : D → Prop) (kvs : List (Int × D)) : Prop where
  nd : (kvs.map (·.1)).Nodup
  ok : ∀ p ∈ kvs, P p.2 ∧ headI p.2 = p.1
theorem lay1_ok {P : D → Prop} {kvs : List (Int × D)} {d : D} (h : LayOk P kvs) (hd : P d) : LayOk P (lay1 kvs d) := by
  unfold lay1
  split
  · exact h
  · exact ⟨dput_nodup h.nd, fun p hp => by
      rcases dput_mem hp with rfl | ⟨hp, _⟩
      · exact ⟨hd, rfl⟩
      · exact h.ok p hp⟩
theorem layR_ok {P : D → Prop} : ∀ (rs : List D) {kvs : List (Int × D)}, LayOk P kvs → (∀ d ∈ rs, P d) → LayOk P (layR kvs rs)
  | [], _, h, _ => h
  | d :: r, kvs, h, hd => layR_ok r (kvs := lay1 kvs d) (lay1_ok h (hd d List.mem_cons_self)) fun e he => hd e (List.mem_cons_of_mem _ he)
theorem layS_ok {P : D → Prop} : ∀ (ss : List (List D)) {kvs : List (Int × D)}, LayOk P kvs → (∀ s ∈ ss, ∀ d ∈ s, P d) → LayOk P (layS kvs ss)
  | [], _, h, _ => h
  | s :: r, kvs, h, hd => layS_ok r (kvs := layR kvs s) (layR_ok s h (hd s List.mem_cons_self)) fun e he => hd e (List.mem_cons_of_mem _ he)
theorem layOk_nil {P : D → Prop} : LayOk P [] := ⟨List.nodup_nil, fun _ h => (nomatch h)⟩
/-! keys -/
def hasK (kvs : List (Int × D)) (k : Int) : Prop := (dget kvs k).isSome = true
theorem hasK_lay1 {kvs : List (Int × D)} {d : D} {k : Int} : hasK (lay1 kvs d) k ↔ hasK kvs k ∨ headI d = k := by
  unfold lay1 hasK
  split
  · rename_i h
    exact ⟨.inl, fun z => z.elim id fun e => by rw [← e]; exact h⟩
  · rw [dget_put]
    by_cases e : k = headI d
    · rw [if_pos e]
      exact ⟨fun _ => .inr e.symm, fun _ => rfl⟩
    · rw [if_neg e]
      exact ⟨.inl, fun z => z.elim id fun h => absurd h.symm e⟩
theorem hasK_layR {k : Int} : ∀ (rs : List D) (kvs : List (Int × D)), hasK (layR kvs rs) k ↔ hasK kvs k ∨ ∃ d ∈ rs, headI d = k
  | [], kvs => ⟨.inl, fun z => z.elim id fun ⟨_, h, _⟩ => (nomatch h)⟩
  | d :: r, kvs => by
    show hasK (layR (lay1 kvs d) r) k ↔ _
    rw [hasK_layR r, hasK_lay1]
    constructor
    · rintro ((h | h) | ⟨e, he, h⟩)
      · exact .inl h
      · exact .inr ⟨d, List.mem_cons_self, h⟩
      · exact .inr ⟨e, List.mem_cons_of_mem _ he, h⟩
    · rintro (h | ⟨e, he, h⟩)
      · exact .inl (.inl h)
      · rcases List.mem_cons.mp he with rfl | he
        · exact .inl (.inr h)
        · exact .inr ⟨e, he, h⟩
theorem hasK_layS {k : Int} : ∀ (ss : List (List D)) (kvs : List (Int × D)), hasK (layS kvs ss) k ↔ hasK kvs k ∨ ∃ s ∈ ss, ∃ d ∈ s, headI d = k
  | [], kvs => ⟨.inl, fun z => z.elim id fun ⟨_, h, _⟩ => (nomatch h)⟩
  | s :: r, kvs => by
    show hasK (layS (layR kvs s) r) k ↔ _
    rw [hasK_layS r, hasK_layR]
    constructor
    · rintro ((h | ⟨d, hd, h⟩) | ⟨e, he, d, hd, h⟩)
      · exact .inl h
      · exact .inr ⟨s, List.mem_cons_self, d, hd, h⟩
      · exact .inr ⟨e, List.mem_cons_of_mem _ he, d, hd, h⟩
    · rintro (h | ⟨e, he, d, hd, h⟩)
      · exact .inl (.inl h)
      · rcases List.mem_cons.mp he with rfl | he
        · exact .inl (.inr ⟨d, hd, h⟩)
        · exact .inr ⟨e, he, d, hd, h⟩
/-- what is laid was told by one of the slips -/
theorem from_layR {p : Int × D} : ∀ (rs : List D) (kvs : List (Int × D)), p ∈ layR kvs rs → p ∈ kvs ∨ p.2 ∈ rs
  | [], kvs, h => .inl h
  | d :: r, kvs, h => by
    rcases from_layR r (lay1 kvs d) h with h | h
    · unfold lay1 at h
      split at h
      · exact .inl h
      · rcases dput_mem h with rfl | ⟨h, _⟩
        · exact .inr List.mem_cons_self
        · exact .inl h
    · exact .inr (List.mem_cons_of_mem _ h)
theorem from_layS {p : Int × D} : ∀ (ss : List (List D)) (kvs : List (Int × D)), p ∈ layS kvs ss → p ∈ kvs ∨ ∃ s ∈ ss, p.2 ∈ s
  | [], kvs, h => .inl h
  | s :: r, kvs, h => by
    rcases from_layS r (layR kvs s) h with h | ⟨t, ht, h⟩
    · rcases from_layR s kvs h with h | h
      · exact .inl h
      · exact .inr ⟨s, List.mem_cons_self, h⟩
    · exact .inr ⟨t, List.mem_cons_of_mem _ ht, h⟩
theorem rowsV_mem {kvs : List (Int × D)} {d : D} (h : d ∈ rowsV kvs) : ∃ k, (k, d) ∈ kvs := by
  obtain ⟨k, _, hk⟩ := vals_mem (sortI_perm _) h
  exact ⟨k, hk⟩
theorem rowsV_has {kvs : List (Int × D)} (nd : (kvs.map (·.1)).Nodup) {p : Int × D} (h : p ∈ kvs) : p.2 ∈ rowsV kvs := by
  refine List.mem_map.mpr ⟨p.1, (sortI_perm _).mem_iff.mpr (List.mem_map.mpr ⟨p, h, rfl⟩), ?_⟩
  rw [dget_nodup nd h]
  rfl
theorem rowsV_len {kvs : List (Int × D)} : (rowsV kvs).length = kvs.length := by
  unfold rowsV vals
  rw [List.length_map, (sortI_perm _).length_eq, List.length_map]
theorem rowsV_up {P : D → Prop} {kvs : List (Int × D)} (h : LayOk P kvs) : (rowsV kvs).Pairwise fun a b => headI a < headI b :=
  vals_up (sortI_perm _) (sortI_sort _) h.nd fun p hp => (h.ok p hp).2
/-- good slips laid together are a good slip -/
theorem good_lay {ss : List (List D)} (h : ∀ s ∈ ss, Good s) : Good (rowsV (layS [] ss)) := by
  have ok : LayOk (fun d => GR (headI d) d) (layS [] ss) := layS_ok ss layOk_nil fun s hs d hd => (h s hs).gr d hd
  refine ⟨fun d hd => ?_, rowsV_up ok, fun d hd q hq => ?_⟩
  · obtain ⟨k, hk⟩ := rowsV_mem hd
    exact (ok.ok _ hk).1
  · obtain ⟨k, hk⟩ := rowsV_mem hd
    rcases from_layS ss [] hk with h1 | ⟨s, hs, h1⟩
    · cases h1
    · obtain ⟨e, he, h2⟩ := (h s hs).need d h1 q hq
      have h3 : hasK (layS [] ss) q := (hasK_layS ss []).mpr (.inr ⟨s, hs, e, he, h2⟩)
      cases hg : dget (layS [] ss) q with
      | none =>
        unfold hasK at h3
        rw [hg] at h3
        cases h3
      | some v =>
        have hm := dget_mem hg
        exact ⟨v, rowsV_has ok.nd hm, (ok.ok _ hm).2⟩
/-! setdefault -/
theorem x_rcvS {n : Nat} {kvs : List (Int × D)} {M : MS} {p : Prop} (hM : M[n]? = some (.dict kvs)) (h : p) : rcv .setdefault (.ref n) M ∧ p := ⟨⟨n, kvs, rfl, hM⟩, h⟩
theorem x_setdef {n : Nat} {k : Int} {y : D} {kvs : List (Int × D)} {M : MS} {Q : VQ} (hM : M[n]? = some (.dict kvs)) (hl : kvs.length < lim) (h1 : ∀ d, dget kvs k = some d → Q d M) (h2 : dget kvs k = none → Q y (M.set n (.dict (dput kvs k y)))) :
    meth2 .setdefault (.ref n) [.int k, y] M Q := by
  simp only [meth2, hM]
  refine ⟨hl, ?_⟩
  cases hg : dget kvs k with
  | some d => exact h1 d hg
  | none => exact h2 hg
theorem rowsV_nil : rowsV [] = [] := List.eq_nil_of_length_eq_zero rowsV_len
end Sl
/-! Tex: rows as texts, in plain words. -/
namespace Sl
/-! figures -/
theorem figs_all : ∀ (k n : Nat), ∀ c ∈ figs k n, 48 ≤ c ∧ c ≤ 57
  | 0, _, c, h => by rw [figs] at h; cases h
  | k + 1, n, c, h => by
    rw [figs] at h
    split at h
    · rw [List.mem_singleton.mp h]; omega
    · rcases List.mem_append.mp h with h | h
      · exact figs_all k _ c h
      · rw [List.mem_singleton.mp h]; omega
theorem figs_ne {k n : Nat} (h : n < k) : figs k n ≠ [] := by
  cases k with
  | zero => exact absurd h (Nat.not_lt_zero _)
  | succ k =>
    rw [figs]
    split <;> simp
theorem figs_len : ∀ (k n j : Nat), 1 ≤ j → n < 10 ^ j → (figs k n).length ≤ j
  | 0, _, j, h, _ => by rw [figs]; exact Nat.zero_le _
  | k + 1, n, j, h, hn => by
    rw [figs]
    split
    · exact h
    · rename_i c
      rw [List.length_append, List.length_singleton]
      have j2 : 2 ≤ j := by
        rcases Nat.lt_or_ge j 2 with z | z
        · have : j = 1 := by omega
          subst this
          omega
        · exact z
      have := figs_len k (n / 10) (j - 1) (by omega) (by
        obtain ⟨i, rfl⟩ : ∃ i, j = i + 1 := ⟨j - 1, by omega⟩
        rw [Nat.pow_succ] at hn
        show n / 10 < 10 ^ i
        omega)
      omega
theorem fromFigs_app (a : List Nat) (c : Nat) : fromFigs (a ++ [c]) = 10 * fromFigs a + (c - 48) := by
  unfold fromFigs
  rw [List.foldl_append]
  rfl
theorem fromFigs_figs : ∀ (k n : Nat), n < k → fromFigs (figs k n) = n
  | 0, n, h => absurd h (Nat.not_lt_zero _)
  | k + 1, n, h => by
    rw [figs]
    split
    · show 10 * 0 + (48 + n - 48) = n
      omega
    · rw [fromFigs_app, fromFigs_figs k (n / 10) (by omega)]
      omega
theorem figs_head : ∀ (k n : Nat), 1 ≤ n → n < k → ∃ c r, figs k n = c :: r ∧ c ≠ 48
  | 0, n, _, h => absurd h (Nat.not_lt_zero _)
  | k + 1, n, h1, h => by
    rw [figs]
    split
    · exact ⟨48 + n, [], rfl, by omega⟩
    · obtain ⟨c, r, e, hc⟩ := figs_head k (n / 10) (by omega) (by omega)
      rw [e]
      exact ⟨c, r ++ [48 + n % 10], rfl, hc⟩
/-- a number from 0 on as its figures -/
theorem itos_nn {i : Int} (h : 0 ≤ i) : itos i = figs (i.natAbs + 1) i.natAbs := by unfold itos; rw [if_neg (by omega)]
theorem itos_all {i : Int} (h : 0 ≤ i) : ∀ c ∈ itos i, 48 ≤ c ∧ c ≤ 57 := by rw [itos_nn h]; exact figs_all _ _
theorem itos_len {i : Int} {j : Nat} (h : 0 ≤ i) (hj : 1 ≤ j) (h1 : i < 10 ^ j) : (itos i).length ≤ j := by
  rw [itos_nn h]
  refine figs_len _ _ j hj ?_
  obtain ⟨n, rfl⟩ := Int.eq_ofNat_of_zero_le h
  rw [Int.natAbs_natCast]
  have e : ((10 : Int) ^ j) = ((10 ^ j : Nat) : Int) := (Int.natCast_pow 10 j).symm
  rw [e] at h1
  exact Int.ofNat_lt.mp h1
theorem itos_ne {i : Int} (h : 0 ≤ i) : itos i ≠ [] := by rw [itos_nn h]; exact figs_ne (Nat.lt_succ_self _)
theorem itos_from {i : Int} (h : 0 ≤ i) : ((fromFigs (itos i) : Nat) : Int) = i := by
  rw [itos_nn h, fromFigs_figs _ _ (Nat.lt_succ_self _)]
  omega
theorem itos_head {i : Int} (h : 1 ≤ i) : ∃ c r, itos i = c :: r ∧ c ≠ 48 := by
  rw [itos_nn (by omega)]
  exact figs_head _ _ (by omega) (Nat.lt_succ_self _)
theorem itos_figs {i : Int} (h : 0 ≤ i) : isFigs (itos i) = true := by
  unfold isFigs
  rw [List.all_eq_true]
  exact fun c hc => decide_eq_true (itos_all h c hc)
/-! split, joined -/
theorem joinC_snoc {sep : List Nat} : ∀ {ps : List (List Nat)} {q : List Nat}, ps ≠ [] → joinC sep (ps ++ [q]) = joinC sep ps ++ sep ++ q
  | [], _, h => absurd rfl h
  | [p], q, _ => rfl
  | p :: p2 :: r, q, _ => by
    show p ++ sep ++ joinC sep (p2 :: r ++ [q]) = p ++ sep ++ joinC sep (p2 :: r) ++ sep ++ q
    rw [joinC_snoc (by simp)]
    simp only [List.append_assoc]
theorem splitC_free {c : Nat} : ∀ {p : List Nat}, c ∉ p → splitC c p = [p]
  | [], _ => rfl
  | x :: r, h => by
    rw [splitC, if_neg (fun e => h (by rw [e]; exact List.mem_cons_self)), splitC_free fun z => h (List.mem_cons_of_mem _ z)]
theorem splitC_app {c : Nat} : ∀ {p : List Nat} (r : List Nat), c ∉ p → splitC c (p ++ [c] ++ r) = p :: splitC c r
  | [], r, _ => by
    show splitC c (c :: r) = _
    rw [splitC, if_pos rfl]
  | x :: p, r, h => by
    show splitC c (x :: (p ++ [c] ++ r)) = _
    rw [splitC, if_neg (fun e => h (by rw [e]; exact List.mem_cons_self)), splitC_app r fun z => h (List.mem_cons_of_mem _ z)]
theorem splitC_join {c : Nat} : ∀ {ps : List (List Nat)}, ps ≠ [] → (∀ p ∈ ps, c ∉ p) → splitC c (joinC [c] ps) = ps
  | [], h, _ => absurd rfl h
  | [p], _, h => splitC_free (h p List.mem_cons_self)
  | p :: q :: r, _, h => by
    show splitC c (p ++ [c] ++ joinC [c] (q :: r)) = _
    rw [splitC_app _ (h p List.mem_cons_self), splitC_join (by simp) fun z hz => h z (List.mem_cons_of_mem _ hz)]
theorem joinC_mem {sep : List Nat} {c : Nat} : ∀ {ps : List (List Nat)}, c ∈ joinC sep ps → c ∈ sep ∨ ∃ p ∈ ps, c ∈ p
  | [], h => by cases h
  | [p], h => .inr ⟨p, List.mem_cons_self, h⟩
  | p :: q :: r, h => by
    have h : c ∈ p ++ sep ++ joinC sep (q :: r) := h
    rcases List.mem_append.mp h with h | h
    · rcases List.mem_append.mp h with h | h
      · exact .inr ⟨p, List.mem_cons_self, h⟩
      · exact .inl h
    · rcases joinC_mem h with h | ⟨x, hx, h⟩
      · exact .inl h
      · exact .inr ⟨x, List.mem_cons_of_mem _ hx, h⟩
theorem joinC_len {sep : List Nat} : ∀ ps : List (List Nat), (joinC sep ps).length ≤ (ps.map (·.length)).sum + ps.length * sep.length
  | [] => Nat.zero_le _
  | [p] => by
    show p.length ≤ p.length + 0 + 1 * sep.length
    omega
  | p :: q :: r => by
    have h := joinC_len (sep := sep) (q :: r)
    show (p ++ sep ++ joinC sep (q :: r)).length ≤ _
    rw [List.length_append, List.length_append, List.map_cons, List.sum_cons, List.length_cons, Nat.succ_mul]
    omega
theorem sum_le {ps : List (List Nat)} {b : Nat} (h : ∀ p ∈ ps, p.length ≤ b) : (ps.map (·.length)).sum ≤ ps.length * b := by
  induction ps with
  | nil => exact Nat.zero_le _
  | cons p r ih =>
    have h1 := h p List.mem_cons_self
    have h2 := ih fun x hx => h x (List.mem_cons_of_mem _ hx)
    rw [List.map_cons, List.sum_cons, List.length_cons, Nat.succ_mul]
    omega
/-! rows -/
def powW (p : Int × Int) : List Nat := itos p.1 ++ [94] ++ itos p.2
def wordsV : D → List (List Nat)
  | .tup [.int n, .str w, .tup fs] => itos n :: w :: (if w = sPrime then (match fs with
      | [.int b, .tup ps] => itos b :: (ps.map pairOf).map powW
      | _ => []) else fs.map fun d => itos (intOf d))
  | _ => []
def lineV (d : D) : List Nat := joinC [32] (wordsV d)
def textV (rs : List D) : List Nat := joinC [10] (rs.map lineV)
theorem words_prime {n b : Int} {ps : List (Int × Int)} : wordsV (.tup [.int n, .str sPrime, .tup [.int b, .tup (ps.map pairD)]]) = itos n :: sPrime :: itos b :: ps.map powW := by
  show itos n :: sPrime :: (if sPrime = sPrime then itos b :: ((ps.map pairD).map pairOf).map powW else _) = _
  rw [if_pos rfl, pairOf_map]
/-- a row whose numbers are from 1 on and not too great -/
inductive TR : D → Prop
  | first {n : Int} : 2 ≤ n → n ≤ 10 ^ 30 → TR (.tup [.int n, .str sFirst, .tup []])
  | prime {n b : Int} {ps : List (Int × Int)} : 2 ≤ n → n ≤ 10 ^ 30 → 1 ≤ b → b ≤ 10 ^ 30 → Pw ps → (∀ p ∈ ps, 1 ≤ p.2) → ps.length ≤ 310 → TR (.tup [.int n, .str sPrime, .tup [.int b, .tup (ps.map pairD)]])
  | split {n a c : Int} : 2 ≤ n → n ≤ 10 ^ 30 → 2 ≤ a → a ≤ 10 ^ 30 → 2 ≤ c → c ≤ 10 ^ 30 → TR (.tup [.int n, .str sSplit, .tup [.int a, .int c]])
  | power {n b : Int} : 2 ≤ n → n ≤ 10 ^ 30 → 1 ≤ b → b ≤ 10 ^ 30 → TR (.tup [.int n, .str sPower, .tup [.int b]])
  | root {n b : Int} : 2 ≤ n → n ≤ 10 ^ 30 → 1 ≤ b → b ≤ 10 ^ 30 → TR (.tup [.int n, .str sRoot, .tup [.int b]])
theorem TR.fr {d : D} (t : TR d) : FR d := by
  cases t with
  | first a b => exact .first a (by omega)
  | prime a b c d e => exact .prime a (by omega) (by omega) (by omega) e
  | split a b c d e f => exact .split a (by omega) (by omega) (by omega) (by omega) (by omega)
  | power a b c d => exact .power a (by omega) (by omega) (by omega)
  | root a b c d => exact .root a (by omega) (by omega) (by omega)
theorem SR.tr {g : Nat} {d : D} (s : SR g d) (hg : g ≤ 2) : TR d := by
  cases s with
  | first a b => exact .first a (by omega)
  | prime a b c d e => exact .prime a (by omega) c d (e.pw hg) (fun p hp => (e.t p hp).1) (by have := e.len; omega)
  | split a b c d e f => exact .split a (by omega) c (by omega) e (by omega)
  | power a b c d => exact .power a (by omega) c d
  | root a b c d => exact .root a (by omega) c d
theorem num_ok {i : Int} (h1 : 1 ≤ i) (h2 : i ≤ 10 ^ 30) : (itos i).length ≤ 31 ∧ ∀ c ∈ itos i, 48 ≤ c ∧ c ≤ 57 :=
  ⟨itos_len (by omega) (by decide) (by omega), itos_all (by omega)⟩
theorem pow_ok {p : Int × Int} (h : 2 ≤ p.1 ∧ p.1 < 1000000) (h2 : 1 ≤ p.2 ∧ p.2 ≤ 1000) : (powW p).length ≤ 11 ∧ ∀ c ∈ powW p, 48 ≤ c ∧ c ≤ 57 ∨ c = 94 := by
  have a := itos_len (j := 6) (show 0 ≤ p.1 by omega) (by decide) (by omega)
  have b := itos_len (j := 4) (show 0 ≤ p.2 by omega) (by decide) (by omega)
  refine ⟨by unfold powW; rw [List.length_append, List.length_append, List.length_singleton]; omega, fun c hc => ?_⟩
  unfold powW at hc
  rcases List.mem_append.mp hc with hc | hc
  · rcases List.mem_append.mp hc with hc | hc
    · exact .inl (itos_all (by omega) c hc)
    · exact .inr (List.mem_singleton.mp hc)
  · exact .inl (itos_all (by omega) c hc)
/-- the signs of a row's words; their lengths -/
theorem words_ok {d : D} (t : TR d) : (∀ w ∈ wordsV d, w.length ≤ 31 ∧ ∀ c ∈ w, 33 ≤ c ∧ c < 127) ∧ 2 ≤ (wordsV d).length ∧ (wordsV d).length ≤ 320 ∧ (lineV d).length ≤ 4000 := by
  have num : ∀ {i : Int}, 1 ≤ i → i ≤ 10 ^ 30 → (itos i).length ≤ 31 ∧ ∀ c ∈ itos i, 33 ≤ c ∧ c < 127 := fun {i} h1 h2 => ⟨(num_ok h1 h2).1, fun c hc => by have := (num_ok h1 h2).2 c hc; omega⟩
  have small : ∀ {ws : List (List Nat)}, (∀ w ∈ ws, w.length ≤ 31) → ws.length ≤ 10 → (joinC [32] ws).length ≤ 4000 := fun {ws} h1 h2 => by
    have a := joinC_len (sep := [32]) ws
    have b := sum_le h1
    have e : ([32] : List Nat).length = 1 := rfl
    rw [e] at a
    omega
  have mk : ∀ {ws : List (List Nat)}, (∀ w ∈ ws, w.length ≤ 31 ∧ ∀ c ∈ w, 33 ≤ c ∧ c < 127) → 2 ≤ ws.length → ws.length ≤ 10 → (∀ w ∈ ws, w.length ≤ 31 ∧ ∀ c ∈ w, 33 ≤ c ∧ c < 127) ∧ 2 ≤ ws.length ∧ ws.length ≤ 320 ∧ (joinC [32] ws).length ≤ 4000 :=
    fun h1 h2 h3 => ⟨h1, h2, by omega, small (fun w hw => (h1 w hw).1) h3⟩
  have cons : ∀ {w : List Nat} {ws : List (List Nat)}, (w.length ≤ 31 ∧ ∀ c ∈ w, 33 ≤ c ∧ c < 127) → (∀ w ∈ ws, w.length ≤ 31 ∧ ∀ c ∈ w, 33 ≤ c ∧ c < 127) → ∀ x ∈ w :: ws, x.length ≤ 31 ∧ ∀ c ∈ x, 33 ≤ c ∧ c < 127 := fun h1 h2 x hx => by
    rcases List.mem_cons.mp hx with rfl | hx
    · exact h1
    · exact h2 x hx
  cases t with
  | @first n a b => exact mk (ws := [itos n, sFirst]) (cons (num (by omega) b) (cons ⟨by decide, by decide⟩ fun _ h => (nomatch h))) (Nat.le_refl _) (Nat.le_of_ble_eq_true rfl)
  | @split n a c a0 a1 b0 b1 c0 c1 => exact mk (ws := [itos n, sSplit, itos a, itos c]) (cons (num (by omega) a1) (cons ⟨by decide, by decide⟩ (cons (num (by omega) b1) (cons (num (by omega) c1) fun _ h => (nomatch h))))) (Nat.le_of_ble_eq_true rfl) (Nat.le_of_ble_eq_true rfl)
  | @power n b a0 a1 b0 b1 => exact mk (ws := [itos n, sPower, itos b]) (cons (num (by omega) a1) (cons ⟨by decide, by decide⟩ (cons (num b0 b1) fun _ h => (nomatch h)))) (Nat.le_of_ble_eq_true rfl) (Nat.le_of_ble_eq_true rfl)
  | @root n b a0 a1 b0 b1 => exact mk (ws := [itos n, sRoot, itos b]) (cons (num (by omega) a1) (cons ⟨by decide, by decide⟩ (cons (num b0 b1) fun _ h => (nomatch h)))) (Nat.le_of_ble_eq_true rfl) (Nat.le_of_ble_eq_true rfl)
  | @prime n b ps a0 a1 b0 b1 f f1 fl =>
    have pw : ∀ p ∈ ps, (powW p).length ≤ 11 ∧ ∀ c ∈ powW p, 48 ≤ c ∧ c ≤ 57 ∨ c = 94 := fun p hp => pow_ok (f.two p hp) ⟨f1 p hp, (f.times p hp).2⟩
    unfold lineV
    rw [words_prime]
    have all : ∀ x ∈ itos n :: sPrime :: itos b :: ps.map powW, x.length ≤ 31 ∧ ∀ c ∈ x, 33 ≤ c ∧ c < 127 := cons (num (by omega) a1) (cons ⟨by decide, by decide⟩ (cons (num b0 b1) fun x hx => by
      obtain ⟨p, hp, rfl⟩ := List.mem_map.mp hx
      have := pw p hp
      exact ⟨by omega, fun c hc => by have := this.2 c hc; omega⟩))
    refine ⟨all, by simp, by simp only [List.length_cons, List.length_map]; omega, ?_⟩
    have a := joinC_len (sep := [32]) (itos n :: sPrime :: itos b :: ps.map powW)
    have e : ([32] : List Nat).length = 1 := rfl
    have b1 := sum_le (ps := ps.map powW) (b := 11) fun x hx => by
      obtain ⟨p, hp, rfl⟩ := List.mem_map.mp hx
      exact (pw p hp).1
    have c1 := (all (itos n) (by simp)).1
    have c2 := (all (itos b) (by simp)).1
    have c3 : sPrime.length = 5 := rfl
    rw [e] at a
    simp only [List.map_cons, List.sum_cons, List.length_cons, List.length_map] at a b1
    omega
theorem line_free {d : D} (t : TR d) : 10 ∉ lineV d := fun h => by
  rcases joinC_mem h with h | ⟨p, hp, h⟩
  · rw [List.mem_singleton] at h; omega
  · have := ((words_ok t).1 p hp).2 10 h
    omega
theorem words_back {d : D} (t : TR d) : splitC 32 (lineV d) = wordsV d :=
  splitC_join (fun z => by have := (words_ok t).2.1; rw [z] at this; simp at this) fun p hp h => by
    have := ((words_ok t).1 p hp).2 32 h
    omega
theorem text_back {rs : List D} (h : rs ≠ []) (t : ∀ d ∈ rs, TR d) : splitC 10 (textV rs) = rs.map lineV :=
  splitC_join (fun z => h (List.map_eq_nil_iff.mp z)) fun p hp => by
    obtain ⟨d, hd, rfl⟩ := List.mem_map.mp hp
    exact line_free (t d hd)
theorem pow_back {p : Int × Int} (h : 1 ≤ p.1) (h2 : 1 ≤ p.2) : splitC 94 (powW p) = [itos p.1, itos p.2] := by
  have f : ∀ i : Int, 0 ≤ i → 94 ∉ itos i := fun i hi z => by have := itos_all hi 94 z; omega
  unfold powW
  rw [splitC_app _ (f _ (by omega)), splitC_free (f _ (by omega))]
/-! words of the language -/
theorem x_addS {s t : List Nat} {M : MS} {Q : VQ} (hl : s.length + t.length ≤ lim) (h : Q (.str (s ++ t)) M) : bin2 .add (.str s) (.str t) M Q := ⟨hl, h⟩
theorem x_str {i : Int} {M : MS} {Q : VQ} (h0 : 0 ≤ i) (h1 : i.natAbs < 2 ^ 1900) (h : Q (.str (itos i)) M) : bi2 .str [.int i] M Q := ⟨h0, h1, h⟩
theorem x_parse {s : List Nat} {M : MS} {Q : VQ} (h0 : isFigs s = true) (h1 : s ≠ []) (h2 : s.length ≤ 600) (h : Q (.int (fromFigs s : Nat)) M) : bi2 .parse [.str s] M Q := ⟨h0, h1, h2, h⟩
theorem strsOf_map (l : List (List Nat)) : strsOf (l.map .str) = some l := by
  induction l with
  | nil => rfl
  | cons x r ih => rw [List.map_cons, strsOf, ih]; rfl
theorem x_rcvJ {s : List Nat} {M : MS} {p : Prop} (h : p) : rcv .join (.str s) M ∧ p := ⟨⟨s, rfl⟩, h⟩
theorem x_rcvSp {s : List Nat} {M : MS} {p : Prop} (h : p) : rcv .split (.str s) M ∧ p := ⟨⟨s, rfl⟩, h⟩
theorem x_join' {s : List Nat} {n : Nat} {ss : List (List Nat)} {M : MS} {Q : VQ} (hM : M[n]? = some (.lst (ss.map .str))) (hl : (ss.map (·.length)).sum + ss.length * s.length ≤ lim) (h : Q (.str (joinC s ss)) M) : meth2 .join (.str s) [.ref n] M Q := by
  simp only [meth2, hM, strsOf_map]
  exact ⟨hl, h⟩
theorem x_split {s : List Nat} {c : Nat} {M : MS} {Q : VQ} (hl : s.length ≤ lim) (hc : c < 256) (h : Q (.ref M.length) (M ++ [.lst ((splitC c s).map .str)])) : meth2 .split (.str s) [.str [c]] M Q := ⟨hl, hc, h⟩
theorem x_inStr {c : Nat} {z : List Nat} {M : MS} {R : Bool → Prop} (h : R (decide (c ∈ z))) : cmp2 .isin (.str [c]) (.str z) M R := h
theorem x_notinStr {c : Nat} {z : List Nat} {M : MS} {R : Bool → Prop} (h : R (!decide (c ∈ z))) : cmp2 .notin (.str [c]) (.str z) M R := h
theorem x_ixS {s : List Nat} {i : Int} {c : Nat} {M : MS} {Q : VQ} (hl : s.length ≤ lim) (h0 : atI s i = some c) (h : Q (.str [c]) M) : idx2 (.str s) (.int i) M Q := by
  show s.length ≤ lim ∧ (match atI s i with | some c => Q (.str [c]) M | none => False)
  rw [h0]
  exact ⟨hl, h⟩
theorem x_lenS {s : List Nat} {M : MS} {Q : VQ} (hl : s.length ≤ lim) (h : Q (.int s.length) M) : bi2 .len [.str s] M Q := ⟨hl, h⟩
/-- a comprehension whose parts let the store grow -/
theorem turns_gr {α : Type} {h : Hold} {t' : LT} {σ : Loc} {c' e' : Loc → MS → VQ → Prop} {Q : VQ} {M0 : MS} (f g : α → D) (hk : ∀ M', Gr M0 M' → h.ok M') (hf : ∀ M', h.fin M' = M') : ∀ (l : List α) (ys : List D) (M : MS), Gr M0 M → ys.length + l.length ≤ lim →
    (∀ a ∈ l, ∃ σ', asgT t' (f a) σ = some σ' ∧ (∀ (M' : MS) (R : VQ), Gr M0 M' → R (.bool true) M' → c' σ' M' R) ∧ ∀ (M' : MS) (R : VQ), Gr M0 M' → (∀ M'', Gr M' M'' → R (g a) M'') → e' σ' M' R) →
    (∀ M', Gr M0 M' → Q (.ref M'.length) (M' ++ [.lst (ys ++ l.map g)])) → wTurns h t' σ c' e' Q (l.map f) ys M
  | [], ys, M, gm, _, _, q => by
    rw [List.map_nil, wTurns]
    have q := q M gm
    rw [List.map_nil, List.append_nil] at q
    exact ⟨hk M gm, by rw [hf]; exact q⟩
  | a :: r, ys, M, gm, hl, hx, q => by
    obtain ⟨σ', h1, h2, h3⟩ := hx a List.mem_cons_self
    rw [List.map_cons, wTurns, h1]
    rw [List.length_cons] at hl
    refine ⟨hk M gm, h2 M _ gm ?_⟩
    rw [brn_bool, if_pos rfl]
    refine h3 M _ gm fun M2 g2 => ⟨by omega, turns_gr f g hk hf r (ys ++ [g a]) M2 (gm.trans g2) (by rw [List.length_append]; show ys.length + 1 + r.length ≤ lim; omega) (fun b hb => hx b (List.mem_cons_of_mem _ hb)) fun M' g' => ?_⟩
    have q := q M' g'
    rw [List.map_cons] at q
    rw [List.append_assoc]
    exact q
theorem tr_head {d : D} (t : TR d) : ∃ (n : Int) (w : List Nat) (fs : List D), d = .tup [.int n, .str w, .tup fs] ∧ 2 ≤ n ∧ n ≤ 10 ^ 30 ∧ w.length ≤ 5 := by
  cases t with
  | first a b => exact ⟨_, _, _, rfl, a, b, by decide⟩
  | prime a b => exact ⟨_, _, _, rfl, a, b, by decide⟩
  | split a b => exact ⟨_, _, _, rfl, a, b, by decide⟩
  | power a b => exact ⟨_, _, _, rfl, a, b, by decide⟩
  | root a b => exact ⟨_, _, _, rfl, a, b, by decide⟩
/-- a row not of primes: its facts are numbers -/
theorem tr_other {n : Int} {w : List Nat} {fs : List D} (t : TR (.tup [.int n, .str w, .tup fs])) (hw : w ≠ sPrime) : ∃ is : List Int, fs = is.map .int ∧ is.length ≤ 2 ∧ (∀ i ∈ is, 1 ≤ i ∧ i ≤ 10 ^ 30) ∧ wordsV (.tup [.int n, .str w, .tup fs]) = itos n :: w :: is.map itos := by
  generalize hd : D.tup [.int n, .str w, .tup fs] = d at t
  have go : ∀ (is : List Int), fs = is.map .int → wordsV (.tup [.int n, .str w, .tup fs]) = itos n :: w :: is.map itos := fun is e => by
    show itos n :: w :: (if w = sPrime then _ else fs.map fun d => itos (intOf d)) = _
    rw [if_neg hw, e, List.map_map]
    rfl
  cases t with
  | first a b =>
    simp only [D.tup.injEq, List.cons.injEq, D.int.injEq, D.str.injEq, true_and, and_true] at hd
    obtain ⟨rfl, rfl, rfl⟩ := hd
    exact ⟨[], rfl, by decide, fun _ h => (nomatch h), go [] rfl⟩
  | prime a b =>
    simp only [D.tup.injEq, List.cons.injEq, D.int.injEq, D.str.injEq, true_and, and_true] at hd
    exact absurd hd.2.1 hw
  | @split n' a c a0 a1 b0 b1 c0 c1 =>
    simp only [D.tup.injEq, List.cons.injEq, D.int.injEq, D.str.injEq, true_and, and_true] at hd
    obtain ⟨rfl, rfl, rfl⟩ := hd
    refine ⟨[a, c], rfl, Nat.le_refl _, fun i hi => ?_, go [a, c] rfl⟩
    simp only [List.mem_cons, List.not_mem_nil, or_false] at hi
    rcases hi with rfl | rfl <;> omega
  | @power n' b a0 a1 b0 b1 =>
    simp only [D.tup.injEq, List.cons.injEq, D.int.injEq, D.str.injEq, true_and, and_true] at hd
    obtain ⟨rfl, rfl, rfl⟩ := hd
    refine ⟨[b], rfl, Nat.le_of_ble_eq_true rfl, fun i hi => ?_, go [b] rfl⟩
    rw [List.mem_singleton] at hi
    omega
  | @root n' b a0 a1 b0 b1 =>
    simp only [D.tup.injEq, List.cons.injEq, D.int.injEq, D.str.injEq, true_and, and_true] at hd
    obtain ⟨rfl, rfl, rfl⟩ := hd
    refine ⟨[b], rfl, Nat.le_of_ble_eq_true rfl, fun i hi => ?_, go [b] rfl⟩
    rw [List.mem_singleton] at hi
    omega
/-- a row of primes -/
theorem tr_prime {n : Int} {fs : List D} (t : TR (.tup [.int n, .str sPrime, .tup fs])) : ∃ (b : Int) (ps : List (Int × Int)), fs = [.int b, .tup (ps.map pairD)] ∧ 1 ≤ b ∧ b ≤ 10 ^ 30 ∧ Pw ps ∧ (∀ p ∈ ps, 1 ≤ p.2) ∧ ps.length ≤ 310 := by
  generalize hd : D.tup [.int n, .str sPrime, .tup fs] = d at t
  cases t with
  | @prime n' b ps a0 a1 b0 b1 f f1 fl =>
    simp only [D.tup.injEq, List.cons.injEq, D.int.injEq, D.str.injEq, true_and, and_true] at hd
    exact ⟨b, ps, hd.2, b0, b1, f, f1, fl⟩
  | _ =>
    simp only [D.tup.injEq, List.cons.injEq, D.int.injEq, D.str.injEq, true_and, and_true] at hd
    exact absurd hd.2.1 (by decide)
theorem num_fine {i : Int} (h : 0 ≤ i) (h2 : i ≤ 10 ^ 30) : i.natAbs < 2 ^ 1900 := by
  have : i.natAbs < 2 ^ 100 := by omega
  exact Nat.lt_of_lt_of_le this (Nat.pow_le_pow_right (by decide) (by decide))
theorem atI_one {α : Type} {x y : α} {r : List α} : atI (x :: y :: r) 1 = some y := atI_nat (x :: y :: r) 1
theorem atI_two {α : Type} {x y z : α} {r : List α} : atI (x :: y :: z :: r) 2 = some z := atI_nat (x :: y :: z :: r) 2
end Sl
/-! Cut: the rows on which a row stands, in plain words; try. -/
namespace Sl
/-! ### try -/
/-- what a clause wants of an error -/
def hndl (O : Oracle) (cls i : Nat) (h : LS) (En : Ends) (c : Exn) (σ : Loc) (M : MS) : Prop := bif excLe c cls then ∀ a : Nat, wS (O.ex c a) h (σ.set i (some (.exc c a))) M { nx := fun σ'' M'' => En.nx (σ''.set i none) M'', rt := En.rt, ex := fun _ _ _ => False } else En.ex c σ M
theorem x_try {O : Oracle} {b h : LS} {cls i : Nat} {σ : Loc} {M : MS} {nx : Loc → MS → Prop} {rt : VQ} {ex : Exn → Loc → MS → Prop} (q : wS O b σ M ⟨nx, rt, hndl O cls i h ⟨nx, rt, ex⟩⟩) : wS O (.tryx b cls (some i) h) σ M ⟨nx, rt, ex⟩ := by
  rw [wS]
  exact q
theorem hndl_yes {O : Oracle} {cls i c : Nat} {h : LS} {nx : Loc → MS → Prop} {rt : VQ} {ex : Exn → Loc → MS → Prop} {σ : Loc} {M : MS} (e : excLe c cls = true) (q : ∀ a : Nat, wS (O.ex c a) h (σ.set i (some (.exc c a))) M ⟨fun σ'' M'' => nx (σ''.set i none) M'', rt, fun _ _ _ => False⟩) : hndl O cls i h ⟨nx, rt, ex⟩ c σ M := by
  unfold hndl
  rw [e]
  exact q
theorem x_raise {O : Oracle} {c : Nat} {σ : Loc} {M : MS} {nx : Loc → MS → Prop} {rt : VQ} {ex : Exn → Loc → MS → Prop} (h : ex c σ M) : wS O (.raise c) σ M ⟨nx, rt, ex⟩ := by rw [wS]; exact h
theorem x_isx {O : Oracle} {c a : Nat} {t : Int} {M : MS} {Q : VQ} {E : XQ} (h : Q (.bool (excLe c t.toNat)) M) : (O.ex c a) 999 [.exc c a, .int t] M Q E := ex_isx h
/-! ### reached -/
inductive Rch (f : Int → D) (n : Int) : Int → Prop
  | base {q : Int} : q ∈ needs (f n) → Rch f n q
  | step {p q : Int} : Rch f n p → q ∈ needs (f p) → Rch f n q
/-- found as they are while some wait: ps the rest of p's needs -/
structure Und (ks : List Int) (f : Int → D) (n : Int) (fnd ws : List Int) : Prop where
  nd : fnd.Nodup
  fk : ∀ q ∈ fnd, q ∈ ks ∧ Rch f n q
  wk : ∀ w ∈ ws, w ∈ ks ∧ (w = n ∨ w ∈ fnd)
def frees (ks fnd : List Int) : Nat := (ks.filter fun k => !decide (k ∈ fnd)).length
theorem frees_app {ks fnd : List Int} {q : Int} (hk : q ∈ ks) (hf : q ∉ fnd) : frees ks (fnd ++ [q]) + 1 ≤ frees ks fnd := by
  refine filter_less _ _ ks (fun x _ hx => ?_) ⟨q, hk, ?_, ?_⟩
  · rw [Bool.not_eq_true', decide_eq_false_iff_not] at hx ⊢
    exact fun z => hx (List.mem_append_left _ z)
  · rw [decide_eq_false hf]; rfl
  · rw [decide_eq_true (List.mem_append_right _ (List.mem_singleton.mpr rfl))]; rfl
/-- all that waits not has its needs found -/
def Done (f : Int → D) (n : Int) (fnd ws : List Int) : Prop := ∀ p, (p = n ∨ p ∈ fnd) → p ∈ ws ∨ ∀ q ∈ needs (f p), q ∈ fnd
theorem done_all {f : Int → D} {n : Int} {fnd : List Int} (h : Done f n fnd []) : ∀ q, Rch f n q → q ∈ fnd := by
  intro q r
  induction r with
  | base hq =>
    rcases h n (.inl rfl) with h | h
    · cases h
    · exact h _ hq
  | step _ hq ih =>
    rcases h _ (.inr ih) with h | h
    · cases h
    · exact h _ hq
/-- the numbers on which a row stands, rising -/
theorem und_same {f : Int → D} {n : Int} {a b : List Int} (na : a.Nodup) (nb : b.Nodup) (ha : ∀ q, q ∈ a ↔ Rch f n q) (hb : ∀ q, q ∈ b ↔ Rch f n q) : a.Perm b :=
  (List.perm_ext_iff_of_nodup na nb).mpr fun q => (ha q).trans (hb q).symm
theorem rch_less {ks : List Int} {f : Int → D} {n : Int} (hg : ∀ k ∈ ks, GR k (f k)) (hn : ∀ k ∈ ks, ∀ r ∈ needs (f k), r ∈ ks) (h : n ∈ ks) {q : Int} (r : Rch f n q) : q ∈ ks ∧ q < n := by
  induction r with
  | base hq => exact ⟨hn n h _ hq, needs_less (hg n h) _ hq⟩
  | step _ hq ih =>
    have := needs_less (hg _ ih.1) _ hq
    exact ⟨hn _ ih.1 _ hq, by omega⟩
/-! ### lists -/
/-- a comprehension with a test, whose parts let the store grow -/
theorem turns_gp {α : Type} {h : Hold} {t' : LT} {σ : Loc} {c' e' : Loc → MS → VQ → Prop} {Q : VQ} {M0 : MS} (f g : α → D) (p : α → Bool) (hk : ∀ M', Gr M0 M' → h.ok M') (hf : ∀ M', h.fin M' = M') : ∀ (l : List α) (ys : List D) (M : MS), Gr M0 M → ys.length + l.length ≤ lim →
    (∀ a ∈ l, ∃ σ', asgT t' (f a) σ = some σ' ∧ (∀ (M' : MS) (R : VQ), Gr M0 M' → (∀ M'', Gr M' M'' → R (.bool (p a)) M'') → c' σ' M' R) ∧ (p a = true → ∀ (M' : MS) (R : VQ), Gr M0 M' → (∀ M'', Gr M' M'' → R (g a) M'') → e' σ' M' R)) →
    (∀ M', Gr M0 M' → Q (.ref M'.length) (M' ++ [.lst (ys ++ (l.filter p).map g)])) → wTurns h t' σ c' e' Q (l.map f) ys M
  | [], ys, M, gm, _, _, q => by
    rw [List.map_nil, wTurns]
    have q := q M gm
    rw [List.filter_nil, List.map_nil, List.append_nil] at q
    exact ⟨hk M gm, by rw [hf]; exact q⟩
  | a :: r, ys, M, gm, hl, hx, q => by
    obtain ⟨σ', h1, h2, h3⟩ := hx a List.mem_cons_self
    rw [List.map_cons, wTurns, h1]
    rw [List.length_cons] at hl
    refine ⟨hk M gm, h2 M _ gm fun M1 g1 => ?_⟩
    rw [brn_bool]
    cases hp : p a with
    | true =>
      rw [if_pos rfl]
      refine h3 hp M1 _ (gm.trans g1) fun M2 g2 => ⟨by omega, turns_gp f g p hk hf r (ys ++ [g a]) M2 ((gm.trans g1).trans g2) (by rw [List.length_append]; show ys.length + 1 + r.length ≤ lim; omega) (fun b hb => hx b (List.mem_cons_of_mem _ hb)) fun M' g' => ?_⟩
      have q := q M' g'
      rw [List.filter_cons_of_pos hp, List.map_cons] at q
      rw [List.append_assoc]
      exact q
    | false =>
      rw [if_neg Bool.false_ne_true]
      refine turns_gp f g p hk hf r ys M1 (gm.trans g1) (by omega) (fun b hb => hx b (List.mem_cons_of_mem _ hb)) fun M' g' => ?_
      have q := q M' g'
      rw [List.filter_cons_of_neg (by rw [hp]; exact Bool.false_ne_true)] at q
      exact q
theorem x_sortL {n : Nat} {l : List Int} {M : MS} {Q : VQ} (hM : M[n]? = some (.lst (l.map .int))) (h : Q (.ref M.length) (M ++ [.lst ((sortI l).map .int)])) : bi2 .sorted [.ref n] M Q := by
  simp only [bi2, hM, intsOf_map]
  intro ns' hp hs
  rw [sortI_uniq hp hs]
  exact h
theorem x_sortK {n : Nat} {kvs : List (Int × D)} {M : MS} {Q : VQ} (hM : M[n]? = some (.dict kvs)) (h : Q (.ref M.length) (M ++ [.lst ((sortI (kvs.map (·.1))).map .int)])) : bi2 .sorted [.ref n] M Q := by
  refine x_sortD hM fun ns' hp hs => ?_
  rw [sortI_uniq hp hs]
  exact h
theorem sortI_same {a b : List Int} (h : a.Perm b) : sortI a = sortI b := sortI_uniq ((sortI_perm a).trans h) (sortI_sort a)
/-! ### a slip cut -/
def underP (f : Int → D) (n : Int) (u : List Int) : Prop := u.Pairwise (· < ·) ∧ ∀ q, q ∈ u ↔ Rch f n q
def cutW (rs : List D) (u : List Int) (n : Int) : List D := rs.filter fun d => decide (headI d ∈ u ++ [n])
theorem cut_good {ks : List Int} {f : Int → D} (hup : ks.Pairwise (· < ·)) (hg : ∀ k ∈ ks, GR k (f k)) (hn : ∀ k ∈ ks, ∀ r ∈ needs (f k), r ∈ ks) {n : Int} (h : n ∈ ks) {u : List Int} (hu : ∀ q, q ∈ u ↔ Rch f n q) : Good (cutW (ks.map f) u n) ∧ ∃ l, cutW (ks.map f) u n = l ++ [f n] := by
  have good := good_of hup hg hn
  constructor
  · refine ⟨fun d hd => good.gr d (List.mem_filter.mp hd).1, good.up.sublist List.filter_sublist, fun d hd q hq => ?_⟩
    obtain ⟨h1, h2⟩ := List.mem_filter.mp hd
    obtain ⟨k, hk, rfl⟩ := List.mem_map.mp h1
    rw [gr_headI (hg k hk)] at h2
    have hq2 : Rch f n q := by
      rcases List.mem_append.mp (of_decide_eq_true h2) with z | z
      · exact .step ((hu k).mp z) hq
      · rw [List.mem_singleton] at z
        rw [z] at hq
        exact .base hq
    have qk := (rch_less hg hn h hq2).1
    refine ⟨f q, List.mem_filter.mpr ⟨List.mem_map.mpr ⟨q, qk, rfl⟩, ?_⟩, gr_headI (hg q qk)⟩
    rw [gr_headI (hg q qk)]
    exact decide_eq_true (List.mem_append_left _ ((hu q).mpr hq2))
  · obtain ⟨a, b, rfl⟩ := List.append_of_mem h
    refine ⟨cutW (a.map f) u n, ?_⟩
    have hb : ∀ k ∈ b, n < k := by
      have := hup
      rw [List.pairwise_append, List.pairwise_cons] at this
      exact this.2.1.1
    unfold cutW
    rw [List.map_append, List.map_cons, List.filter_append, List.filter_cons_of_pos]
    · have : (b.map f).filter (fun d => decide (headI d ∈ u ++ [n])) = [] := by
        rw [List.filter_eq_nil_iff]
        intro d hd z
        obtain ⟨k, hk, rfl⟩ := List.mem_map.mp hd
        have kk : k ∈ a ++ n :: b := by simp [hk]
        rw [gr_headI (hg k kk)] at z
        have kn := hb k hk
        rcases List.mem_append.mp (of_decide_eq_true z) with z | z
        · have := (rch_less hg hn h ((hu k).mp z)).2
          omega
        · rw [List.mem_singleton] at z
          omega
      rw [this]
    · rw [gr_headI (hg n h)]
      exact decide_eq_true (by simp)
end Sl
/-! Any: what is read of any text, in plain words. -/
namespace Sl
theorem isFigs_all {w : List Nat} (h : isFigs w = true) : ∀ c ∈ w, 48 ≤ c ∧ c ≤ 57 := fun c hc => by
  unfold isFigs at h
  rw [List.all_eq_true] at h
  exact of_decide_eq_true (h c hc)
/-- figures without a nought ahead are what their number writes -/
theorem figs_from : ∀ (n : Nat) (w : List Nat), w.length = n → w ≠ [] → (∀ c ∈ w, 48 ≤ c ∧ c ≤ 57) → w.head? ≠ some 48 → 1 ≤ fromFigs w ∧ fromFigs w < 10 ^ n ∧ ∀ k, fromFigs w < k → figs k (fromFigs w) = w
  | 0, w, hn, hw, _, _ => absurd (List.length_eq_zero_iff.mp hn) hw
  | n + 1, w, hn, hw, hf, hh => by
    obtain ⟨a, c, rfl⟩ : ∃ a c, w = a ++ [c] := ⟨w.dropLast, w.getLast hw, (List.dropLast_concat_getLast hw).symm⟩
    have hc := hf c (by simp)
    have ha : a.length = n := by rw [List.length_append] at hn; exact Nat.succ.inj hn
    rw [fromFigs_app]
    cases a with
    | nil =>
      have c0 : c ≠ 48 := fun e => hh (by rw [e]; rfl)
      have e : fromFigs ([] : List Nat) = 0 := rfl
      rw [e]
      subst ha
      refine ⟨by omega, by rw [List.length_nil]; omega, fun k hk => ?_⟩
      cases k with
      | zero => omega
      | succ k =>
        rw [figs, if_pos (by omega), show 48 + (10 * 0 + (c - 48)) = c by omega]
        rfl
    | cons b r =>
      obtain ⟨i1, i2, i3⟩ := figs_from n (b :: r) ha (by simp) (fun x hx => hf x (by simp only [List.mem_append]; exact .inl hx)) (fun e => hh e)
      refine ⟨by omega, ?_, fun k hk => ?_⟩
      · rw [Nat.pow_succ]
        omega
      · cases k with
        | zero => omega
        | succ k =>
          rw [figs, if_neg (by omega), show (10 * fromFigs (b :: r) + (c - 48)) / 10 = fromFigs (b :: r) by omega, show (10 * fromFigs (b :: r) + (c - 48)) % 10 = c - 48 by omega, i3 k (by omega), show 48 + (c - 48) = c by omega]
/-- a number that was read -/
def NI (i : Int) : Prop := 1 ≤ i ∧ i < 10 ^ 31
def numP (w : List Nat) : Option Int := if isFigs w = true ∧ 1 ≤ w.length ∧ w.length ≤ 31 ∧ w.head? ≠ some 48 then some ((fromFigs w : Nat) : Int) else none
theorem numP_some {w : List Nat} {i : Int} (h : numP w = some i) : w = itos i ∧ NI i := by
  unfold numP at h
  split at h
  · rename_i c
    obtain ⟨h1, h2, h3, h4⟩ := c
    cases h
    obtain ⟨a, b, e⟩ := figs_from w.length w rfl (List.length_pos_iff.mp (by omega)) (isFigs_all h1) h4
    refine ⟨?_, by omega, ?_⟩
    · rw [itos_nn (by omega), Int.natAbs_natCast, e _ (Nat.lt_succ_self _)]
    · have : fromFigs w < 10 ^ 31 := Nat.lt_of_lt_of_le b (Nat.pow_le_pow_right (by decide) h3)
      omega
  · cases h
theorem split_sub {c : Nat} : ∀ {s p : List Nat}, p ∈ splitC c s → p.length ≤ s.length ∧ ∀ x ∈ p, x ∈ s
  | [], p, h => by
    rw [splitC, List.mem_singleton] at h
    subst h
    exact ⟨Nat.le_refl _, fun _ z => z⟩
  | x :: r, p, h => by
    rw [splitC] at h
    split at h
    · rcases List.mem_cons.mp h with rfl | h
      · exact ⟨Nat.zero_le _, fun _ z => nomatch z⟩
      · obtain ⟨a, b⟩ := split_sub h
        exact ⟨Nat.le_succ_of_le a, fun y hy => List.mem_cons_of_mem _ (b y hy)⟩
    · have ih := fun q => split_sub (c := c) (s := r) (p := q)
      generalize splitC c r = l at h ih
      cases l with
      | nil =>
        rw [List.mem_singleton] at h
        subst h
        exact ⟨by simp, fun y hy => by rw [List.mem_singleton.mp hy]; exact List.mem_cons_self⟩
      | cons q qs =>
        rcases List.mem_cons.mp h with rfl | h
        · obtain ⟨a, b⟩ := ih q List.mem_cons_self
          refine ⟨by rw [List.length_cons, List.length_cons]; omega, fun y hy => ?_⟩
          rcases List.mem_cons.mp hy with rfl | hy
          · exact List.mem_cons_self
          · exact List.mem_cons_of_mem _ (b y hy)
        · obtain ⟨a, b⟩ := ih p (List.mem_cons_of_mem _ h)
          exact ⟨Nat.le_succ_of_le a, fun y hy => List.mem_cons_of_mem _ (b y hy)⟩
theorem split_len {c : Nat} : ∀ s : List Nat, (splitC c s).length ≤ s.length + 1
  | [] => Nat.le_refl _
  | x :: r => by
    have ih := split_len (c := c) r
    rw [splitC]
    split
    · rw [List.length_cons, List.length_cons]; omega
    · generalize splitC c r = l at ih
      cases l with
      | nil => rw [List.length_singleton]; omega
      | cons q qs =>
        rw [List.length_cons] at ih
        rw [List.length_cons, List.length_cons]
        omega
theorem splitC_some (c : Nat) : ∀ s : List Nat, splitC c s ≠ []
  | [] => by simp [splitC]
  | x :: r => by
    rw [splitC]
    split
    · simp
    · split <;> simp
theorem join_split {c : Nat} : ∀ s : List Nat, joinC [c] (splitC c s) = s
  | [] => rfl
  | x :: r => by
    have ih := join_split (c := c) r
    have ne := splitC_some c r
    rw [splitC]
    generalize splitC c r = l at ih ne
    cases l with
    | nil => exact absurd rfl ne
    | cons q qs =>
      by_cases e : x = c
      · rw [if_pos e, e]
        show [] ++ [c] ++ joinC [c] (q :: qs) = c :: r
        rw [ih]
        rfl
      · rw [if_neg e]
        cases qs with
        | nil => rw [← ih]; rfl
        | cons q2 qs => rw [← ih]; rfl
/-! each -/
def mapP {α : Type} (p : List Nat → Option α) : List (List Nat) → Option (List α)
  | [] => some []
  | w :: r => match p w with
    | none => none
    | some a => match mapP p r with
      | none => none
      | some l => some (a :: l)
theorem mapP_some {α : Type} {p : List Nat → Option α} {g : α → List Nat} {B : α → Prop} (hp : ∀ w a, p w = some a → w = g a ∧ B a) : ∀ {ws : List (List Nat)} {as : List α}, mapP p ws = some as → ws = as.map g ∧ ∀ a ∈ as, B a
  | [], as, h => by
    cases h
    exact ⟨rfl, fun _ z => nomatch z⟩
  | w :: r, as, h => by
    rw [mapP] at h
    cases h1 : p w with
    | none => rw [h1] at h; cases h
    | some a =>
      rw [h1] at h
      cases h2 : mapP p r with
      | none => rw [h2] at h; cases h
      | some l =>
        rw [h2] at h
        cases h
        obtain ⟨e, b⟩ := hp w a h1
        obtain ⟨e2, b2⟩ := mapP_some hp h2
        refine ⟨by rw [List.map_cons, ← e, ← e2], fun x hx => ?_⟩
        rcases List.mem_cons.mp hx with rfl | hx
        · exact b
        · exact b2 x hx
/-! a power, a row, a text -/
def powP (w : List Nat) : Option (Int × Int) := match splitC 94 w with
  | [a, b] => match numP a with
    | none => none
    | some x => match numP b with
      | none => none
      | some y => some (x, y)
  | _ => none
theorem powP_some {w : List Nat} {p : Int × Int} (h : powP w = some p) : w = powW p ∧ NI p.1 ∧ NI p.2 := by
  have j := join_split (c := 94) w
  unfold powP at h
  generalize splitC 94 w = l at h j
  match l, h with
  | [a, b], h =>
    simp only [] at h
    cases ha : numP a with
    | none => rw [ha] at h; cases h
    | some x =>
      rw [ha] at h
      cases hb : numP b with
      | none => rw [hb] at h; cases h
      | some y =>
        rw [hb] at h
        cases h
        obtain ⟨e1, n1⟩ := numP_some ha
        obtain ⟨e2, n2⟩ := numP_some hb
        refine ⟨?_, n1, n2⟩
        rw [← j, e1, e2]
        rfl
/-- a row that was read -/
inductive PRow : D → Prop
  | prime {n b : Int} {ps : List (Int × Int)} : NI n → NI b → (∀ p ∈ ps, NI p.1 ∧ NI p.2) → PRow (.tup [.int n, .str sPrime, .tup [.int b, .tup (ps.map pairD)]])
  | other {n : Int} {w : List Nat} {is : List Int} : (w = sPrime → is = []) → NI n → (∀ i ∈ is, NI i) → (∀ c ∈ w, c < 1114112) → PRow (.tup [.int n, .str w, .tup (is.map .int)])
def rowP (line : List Nat) : Option D := match splitC 32 line with
  | a :: w :: rest => if w = sPrime ∧ rest ≠ [] then (match mapP powP (rest.drop 1) with
      | none => none
      | some ps => match numP a with
        | none => none
        | some n => match numP (rest.headD []) with
          | none => none
          | some b => some (.tup [.int n, .str w, .tup [.int b, .tup (ps.map pairD)]]))
    else (match numP a with
      | none => none
      | some n => match mapP numP rest with
        | none => none
        | some is => some (.tup [.int n, .str w, .tup (is.map .int)]))
  | _ => none
theorem rowP_some {line : List Nat} {d : D} (hc : ∀ c ∈ line, c < 1114112) (h : rowP line = some d) : line = lineV d ∧ PRow d := by
  have j := join_split (c := 32) line
  have sub := fun p (hp : p ∈ splitC 32 line) => (split_sub hp).2
  unfold rowP at h
  generalize splitC 32 line = l at h j sub
  match l, h with
  | a :: w :: rest, h =>
    simp only [] at h
    have cw : ∀ c ∈ w, c < 1114112 := fun c hw => hc c (sub w (by simp) c hw)
    split at h
    · rename_i hw
      obtain ⟨rfl, hr⟩ := hw
      cases rest with
      | nil => exact absurd rfl hr
      | cons b rest =>
        rw [List.drop_one, List.tail_cons, List.headD_cons] at h
        cases h1 : mapP powP rest with
        | none => rw [h1] at h; cases h
        | some ps =>
          rw [h1] at h
          cases h2 : numP a with
          | none => rw [h2] at h; cases h
          | some n =>
            rw [h2] at h
            cases h3 : numP b with
            | none => rw [h3] at h; cases h
            | some k =>
              rw [h3] at h
              cases h
              obtain ⟨e1, n1⟩ := numP_some h2
              obtain ⟨e2, n2⟩ := numP_some h3
              obtain ⟨e3, n3⟩ := mapP_some (g := powW) (B := fun p => NI p.1 ∧ NI p.2) (fun _ _ => powP_some) h1
              refine ⟨?_, .prime n1 n2 n3⟩
              unfold lineV
              rw [words_prime, ← e3, ← e1, ← e2, j]
    · rename_i hw
      cases h2 : numP a with
      | none => rw [h2] at h; cases h
      | some n =>
        rw [h2] at h
        cases h1 : mapP numP rest with
        | none => rw [h1] at h; cases h
        | some is =>
          rw [h1] at h
          cases h
          obtain ⟨e1, n1⟩ := numP_some h2
          obtain ⟨e3, n3⟩ := mapP_some (g := itos) (B := NI) (fun _ _ => numP_some) h1
          have em : w = sPrime → is = [] := fun e => by
            have hr : rest = [] := Classical.byContradiction fun z => hw ⟨e, z⟩
            rw [hr] at e3
            exact List.map_eq_nil_iff.mp e3.symm
          refine ⟨?_, .other em n1 n3 cw⟩
          unfold lineV
          have ew : wordsV (.tup [.int n, .str w, .tup (is.map .int)]) = itos n :: w :: is.map itos := by
            show itos n :: w :: (if w = sPrime then _ else (is.map D.int).map fun d => itos (intOf d)) = _
            by_cases e : w = sPrime
            · rw [if_pos e, em e]
              rfl
            · rw [if_neg e, List.map_map]
              rfl
          rw [ew, ← e3, ← e1, j]
def readP (text : List Nat) : Option (List D) := match mapP rowP (splitC 10 text) with
  | none => none
  | some rs => if slipB (.tup rs) = true then some rs else none
theorem mapRow_some {ws : List (List Nat)} {rs : List D} (hc : ∀ w ∈ ws, ∀ c ∈ w, c < 1114112) (h : mapP rowP ws = some rs) : ws = rs.map lineV ∧ ∀ d ∈ rs, PRow d := by
  induction ws generalizing rs with
  | nil => cases h; exact ⟨rfl, fun _ z => nomatch z⟩
  | cons w r ih =>
    rw [mapP] at h
    cases h1 : rowP w with
    | none => rw [h1] at h; cases h
    | some a =>
      rw [h1] at h
      cases h2 : mapP rowP r with
      | none => rw [h2] at h; cases h
      | some l =>
        rw [h2] at h
        cases h
        obtain ⟨e, b⟩ := rowP_some (hc w List.mem_cons_self) h1
        obtain ⟨e2, b2⟩ := ih (fun w hw => hc w (List.mem_cons_of_mem _ hw)) h2
        refine ⟨by rw [List.map_cons, ← e, ← e2], fun x hx => ?_⟩
        rcases List.mem_cons.mp hx with rfl | hx
        · exact b
        · exact b2 x hx
theorem readP_some {text : List Nat} {rs : List D} (hc : ∀ c ∈ text, c < 1114112) (h : readP text = some rs) : (∀ d ∈ rs, PRow d) ∧ slipB (.tup rs) = true ∧ text = textV rs := by
  have j := join_split (c := 10) text
  unfold readP at h
  have sub := fun w (hw : w ∈ splitC 10 text) c (hx : c ∈ w) => hc c ((split_sub hw).2 c hx)
  cases hm : mapP rowP (splitC 10 text) with
  | none => rw [hm] at h; cases h
  | some l =>
    rw [hm] at h
    simp only [] at h
    split at h
    · rename_i hs
      cases h
      obtain ⟨e, b⟩ := mapRow_some sub hm
      refine ⟨b, hs, ?_⟩
      unfold textV
      rw [← e, j]
    · cases h
theorem prow_th {d : D} (p : PRow d) {M : MS} {j k : Nat} : Th M j (k + 5) d := by
  have pr : ∀ ps : List (Int × Int), Th M j (k + 3) (.tup (ps.map pairD)) := fun ps => Th.tup fun d hd => by
    obtain ⟨x, _, rfl⟩ := List.mem_map.mp hd
    exact Th.tup (all_cons (Th.int _) (all_cons (Th.int _) all_nil))
  have row : ∀ (n : Int) (w : List Nat) (fs : List D), (w.all fun c => decide (c < 1114112)) = true → (∀ d ∈ fs, Th M j (k + 3) d) → Th M j (k + 5) (.tup [.int n, .str w, .tup fs]) := fun n w fs hw hf =>
    Th.tup (all_cons (Th.int _) (all_cons (Th.str hw) (all_cons (Th.tup hf) all_nil)))
  cases p with
  | prime => exact row _ _ _ (by decide) (all_cons (Th.int _) (all_cons (pr _) all_nil))
  | other _ _ _ hw =>
    refine row _ _ _ ?_ fun d hd => ?_
    · rw [List.all_eq_true]
      exact fun c hc => decide_eq_true (hw c hc)
    · obtain ⟨i, _, rfl⟩ := List.mem_map.mp hd
      exact Th.int _
/-! a row that is written: no bound on its length -/
inductive LRow : D → Prop
  | prime {n b : Int} {ps : List (Int × Int)} : 0 ≤ n → n ≤ 10 ^ 30 → 0 ≤ b → b ≤ 10 ^ 30 → (∀ p ∈ ps, 0 ≤ p.1 ∧ p.1 ≤ 10 ^ 30 ∧ 0 ≤ p.2 ∧ p.2 ≤ 10 ^ 30) → LRow (.tup [.int n, .str sPrime, .tup [.int b, .tup (ps.map pairD)]])
  | other {n : Int} {w : List Nat} {is : List Int} : w ≠ sPrime → 0 ≤ n → n ≤ 10 ^ 30 → (∀ i ∈ is, 0 ≤ i ∧ i ≤ 10 ^ 30) → LRow (.tup [.int n, .str w, .tup (is.map .int)])
theorem TR.l {d : D} (t : TR d) : LRow d := by
  obtain ⟨n, w, fs, rfl, h1, h2, _⟩ := tr_head t
  by_cases e : w = sPrime
  · subst e
    obtain ⟨b, ps, rfl, b0, b1, f, f1, fl⟩ := tr_prime t
    exact .prime (by omega) h2 (by omega) b1 fun p hp => by
      have a := f.two p hp
      have c := f.times p hp
      have d := f1 p hp
      omega
  · obtain ⟨is, rfl, _, hi, _⟩ := tr_other t e
    exact .other e (by omega) h2 fun i h => by have := hi i h; omega
theorem betw_le {i lo hi : Int} (h : betw (.int i) lo hi = true) : lo ≤ i ∧ i ≤ hi := by
  rw [betw, Bool.and_eq_true] at h
  exact ⟨of_decide_eq_true h.1, of_decide_eq_true h.2⟩
theorem powB_le : ∀ {ps : List (Int × Int)} {last : Int}, powB last (ps.map pairD) = true → ∀ p ∈ ps, p.1 ≤ BND ∧ p.2 ≤ 100
  | [], _, _, p, hp => by cases hp
  | q :: r, last, h, p, hp => by
    have h : (betw (.int q.1) (last + 1) BND && betw (.int q.2) 1 100 && powB q.1 (r.map pairD)) = true := h
    rw [Bool.and_eq_true, Bool.and_eq_true] at h
    obtain ⟨⟨h1, h2⟩, h3⟩ := h
    rcases List.mem_cons.mp hp with rfl | hp
    · exact ⟨(betw_le h1).2, (betw_le h2).2⟩
    · exact powB_le h3 p hp
theorem PRow.l {d : D} (p : PRow d) (h : rowB d = true) : LRow d := by
  cases p with
  | @prime n b ps n1 b1 hp =>
    have h : (betw (.int n) 2 BND && (betw (.int b) 1 BND && (!decide ((ps.map pairD).length = 0) && powB 1 (ps.map pairD)))) = true := h
    rw [Bool.and_eq_true, Bool.and_eq_true, Bool.and_eq_true] at h
    obtain ⟨h1, h2, _, h3⟩ := h
    have a := betw_le h1
    have c := betw_le h2
    unfold BND at a c
    refine .prime (by omega) (by omega) (by omega) (by omega) fun p hp' => ?_
    have q := powB_le h3 p hp'
    obtain ⟨k1, k2⟩ := hp p hp'
    unfold BND at q
    unfold NI at k1 k2
    omega
  | @other n w is hw n1 hi _ =>
    have h : (betw (.int n) 2 BND && factsB w (is.map .int)) = true := h
    rw [Bool.and_eq_true] at h
    obtain ⟨h1, h2⟩ := h
    have a := betw_le h1
    unfold BND at a
    have one : ∀ {lo : Int} {i : Int}, betw (.int i) lo BND = true → i ≤ 10 ^ 30 := fun {lo i} z => by
      have := betw_le z
      unfold BND at this
      omega
    have go : ∀ {is' : List Int}, is = is' → (∀ i ∈ is', i ≤ 10 ^ 30) → w ≠ sPrime → LRow (.tup [.int n, .str w, .tup (is.map .int)]) := fun e hle hne => .other hne (by omega) (by omega) fun i h => by
      have b := hi i h
      rw [e] at h
      have := hle i h
      unfold NI at b
      omega
    unfold factsB at h2
    split at h2
    · rename_i e
      have : is = [] := by
        have := of_decide_eq_true h2
        rw [List.length_map] at this
        exact List.length_eq_zero_iff.mp this
      exact go this (fun _ z => nomatch z) (by rw [e]; decide)
    · split at h2
      · rename_i e
        rw [hw e] at h2
        cases h2
      · rename_i e
        split at h2
        · match is, h2 with
          | [x, y], h2 =>
            have h2 : (betw (.int x) 2 BND && betw (.int y) 2 BND) = true := h2
            rw [Bool.and_eq_true] at h2
            refine go rfl (fun i h => ?_) e
            simp only [List.mem_cons, List.not_mem_nil, or_false] at h
            rcases h with rfl | rfl
            · exact one h2.1
            · exact one h2.2
        · split at h2
          · match is, h2 with
            | [x], h2 =>
              have h2 : betw (.int x) 1 BND = true := h2
              refine go rfl (fun i h => ?_) e
              rw [List.mem_singleton] at h
              rw [h]
              exact one h2
          · cases h2
theorem upB_rows : ∀ {rs : List D} {last : Int}, upB last rs = true → (∀ d ∈ rs, rowB d = true) ∧ rs.Pairwise (fun a b => headI a < headI b) ∧ ∀ d ∈ rs, last < headI d
  | [], _, _ => ⟨fun _ z => (nomatch z), List.Pairwise.nil, fun _ z => (nomatch z)⟩
  | d :: r, last, h => by
    rw [upB, Bool.and_eq_true, Bool.and_eq_true] at h
    obtain ⟨⟨h1, h2⟩, h3⟩ := h
    obtain ⟨a, b, c⟩ := upB_rows h3
    have h2 := of_decide_eq_true h2
    refine ⟨fun x hx => ?_, List.pairwise_cons.mpr ⟨c, b⟩, fun x hx => ?_⟩
    · rcases List.mem_cons.mp hx with rfl | hx
      · exact h1
      · exact a x hx
    · rcases List.mem_cons.mp hx with rfl | hx
      · exact h2
      · have := c x hx
        omega
theorem slipB_facts {rs : List D} (h : slipB (.tup rs) = true) : 1 ≤ rs.length ∧ rs.length ≤ 200 ∧ (∀ d ∈ rs, rowB d = true) ∧ rs.Pairwise (fun a b => headI a < headI b) := by
  have h : (decide (1 ≤ rs.length) && decide (rs.length ≤ 200) && upB 1 rs) = true := h
  rw [Bool.and_eq_true, Bool.and_eq_true] at h
  obtain ⟨⟨h1, h2⟩, h3⟩ := h
  obtain ⟨a, b, _⟩ := upB_rows h3
  exact ⟨of_decide_eq_true h1, of_decide_eq_true h2, a, b⟩
/-! lengths -/
theorem joinC_pre {sep : List Nat} : ∀ (a b : List (List Nat)), (joinC sep a).length ≤ (joinC sep (a ++ b)).length
  | [], _ => Nat.zero_le _
  | [p], b => by
    cases b with
    | nil => exact Nat.le_refl _
    | cons q r =>
      show p.length ≤ (p ++ sep ++ joinC sep (q :: r)).length
      rw [List.length_append, List.length_append]
      omega
  | p :: q :: r, b => by
    have ih := joinC_pre (sep := sep) (q :: r) b
    show (p ++ sep ++ joinC sep (q :: r)).length ≤ (p ++ sep ++ joinC sep (q :: r ++ b)).length
    rw [List.length_append, List.length_append, List.length_append, List.length_append]
    omega
theorem joinC_sum {sep : List Nat} : ∀ {ps : List (List Nat)}, ps ≠ [] → (joinC sep ps).length + sep.length = (ps.map (·.length)).sum + ps.length * sep.length
  | [], h => absurd rfl h
  | [p], _ => by
    show p.length + sep.length = p.length + 0 + 1 * sep.length
    omega
  | p :: q :: r, _ => by
    have ih := joinC_sum (sep := sep) (ps := q :: r) (by simp)
    show (p ++ sep ++ joinC sep (q :: r)).length + sep.length = _
    rw [List.length_append, List.length_append, List.map_cons, List.sum_cons, List.length_cons, Nat.succ_mul]
    omega
/-- a comprehension over texts whose part may refuse -/
def ans (o : Option D) (Q : VQ) (E : XQ) (M : MS) : Prop := match o with
  | some d => Q d M
  | none => E 7 M
theorem turns_opt {α : Type} {h : Hold} {t' : LT} {σ : Loc} {e' : Loc → MS → VQ → Prop} {Q : VQ} {E : XQ} {M0 : MS} (p : List Nat → Option α) (tod : α → D) (hk : ∀ M', Gr M0 M' → h.ok M') (hf : ∀ M', h.fin M' = M') : ∀ (l : List (List Nat)) (as : List α) (M : MS), Gr M0 M → as.length + l.length ≤ lim →
    (∀ w ∈ l, ∃ σ', asgT t' (.str w) σ = some σ' ∧ ∀ (M' : MS) (R : VQ), Gr M0 M' → (∀ M'', Gr M' M'' → ans ((p w).map tod) R E M'') → e' σ' M' R) →
    (∀ M', Gr M0 M' → match mapP p l with
      | some bs => Q (.ref M'.length) (M' ++ [.lst ((as ++ bs).map tod)])
      | none => E 7 M') → wTurns h t' σ (fun _ M' Q' => Q' (.bool true) M') e' Q (l.map .str) (as.map tod) M
  | [], as, M, gm, _, _, q => by
    have q := q M gm
    rw [mapP] at q
    simp only [List.append_nil] at q
    rw [List.map_nil, wTurns]
    exact ⟨hk M gm, by rw [hf]; exact q⟩
  | w :: r, as, M, gm, hl, hx, q => by
    obtain ⟨σ', h1, h2⟩ := hx w List.mem_cons_self
    rw [List.length_cons] at hl
    rw [List.map_cons, wTurns, h1]
    refine ⟨hk M gm, ?_⟩
    show brn (.bool true) _ _
    rw [brn_bool, if_pos rfl]
    refine h2 M _ gm fun M2 g2 => ?_
    have q := fun M' g' => q M' g'
    simp only [mapP] at q
    cases hp : p w with
    | none =>
      rw [hp] at q
      exact q M2 (gm.trans g2)
    | some a =>
      rw [hp] at q
      refine ⟨by rw [List.length_map]; omega, ?_⟩
      have e : as.map tod ++ [tod a] = (as ++ [a]).map tod := by rw [List.map_append]; rfl
      rw [e]
      refine turns_opt p tod hk hf r (as ++ [a]) M2 (gm.trans g2) (by rw [List.length_append]; show as.length + 1 + r.length ≤ lim; omega) (fun w hw => hx w (List.mem_cons_of_mem _ hw)) fun M' g' => ?_
      have q := q M' g'
      cases hm : mapP p r with
      | none =>
        rw [hm] at q
        exact q
      | some bs =>
        rw [hm] at q
        show Q _ _
        rw [List.append_assoc]
        exact q
theorem x_compx {O : Oracle} {vs : List Nat} {t' : LT} {k : ItK} {src : LA} {e : LE} {σ : Loc} {M : MS} {Q : VQ} {E : XQ} (h : wA O src σ M (fun ds M1 => wk2 k ds M1 fun xs h => wTurns h t' (wipe σ vs) (fun _ M' Q' => Q' (.bool true) M') (fun σ' M' Q' => wE O e σ' M' Q' E) Q xs [] (h.start M1)) E) :
    wE O (.compx vs k src t' e) σ M Q E := by rw [wE]; exact h
theorem x_tryN {O : Oracle} {b h : LS} {cls : Nat} {σ : Loc} {M : MS} {nx : Loc → MS → Prop} {rt : VQ} {ex : Exn → Loc → MS → Prop} (q : wS O b σ M ⟨nx, rt, fun c σ' M' => bif excLe c cls then (∀ a : Nat, wS (O.ex c a) h σ' M' ⟨nx, rt, fun _ _ _ => False⟩) else ex c σ' M'⟩) : wS O (.tryx b cls none h) σ M ⟨nx, rt, ex⟩ := by
  rw [wS]
  exact q
theorem x_mulS {s : List Nat} {k : Int} {M : MS} {Q : VQ} (h1 : 2 ≤ k) (h2 : k ≤ 10000) (h3 : s ≠ []) (h4 : s.length ≤ 100) (h : Q (.str (List.replicate k.toNat s).flatten) M) : bin2 .mul (.str s) (.int k) M Q := ⟨h1, h2, h3, h4, h⟩
/-! texts that are changed -/
def TXT (t : List Nat) : Prop := ∀ c ∈ t, c < 1114112
theorem TXT.app {a b : List Nat} (h1 : TXT a) (h2 : TXT b) : TXT (a ++ b) := fun c hc => (List.mem_append.mp hc).elim (h1 c) (h2 c)
theorem TXT.take {a : List Nat} (h : TXT a) (k : Nat) : TXT (a.take k) := fun c hc => h c (List.mem_of_mem_take hc)
theorem TXT.drop {a : List Nat} (h : TXT a) (k : Nat) : TXT (a.drop k) := fun c hc => h c (List.mem_of_mem_drop hc)
theorem TXT.split {a p : List Nat} {c : Nat} (h : TXT a) (hp : p ∈ splitC c a) : TXT p := fun x hx => h x ((split_sub hp).2 x hx)
theorem TXT.join {c : Nat} {l : List (List Nat)} (hc : c < 1114112) (h : ∀ p ∈ l, TXT p) : TXT (joinC [c] l) := fun x hx => by
  rcases joinC_mem hx with z | ⟨p, hp, z⟩
  · rw [List.mem_singleton.mp z]; exact hc
  · exact h p hp x z
def tot (l : List (List Nat)) : Nat := (l.map (·.length)).sum + l.length
theorem tot_nil : tot [] = 0 := rfl
theorem tot_cons {p : List Nat} {l : List (List Nat)} : tot (p :: l) = p.length + 1 + tot l := by
  unfold tot
  rw [List.map_cons, List.sum_cons, List.length_cons]
  omega
theorem tot_app : ∀ {a b : List (List Nat)}, tot (a ++ b) = tot a + tot b
  | [], b => by rw [List.nil_append, tot_nil, Nat.zero_add]
  | p :: a, b => by rw [List.cons_append, tot_cons, tot_cons, tot_app]; omega
theorem tot_cut (l : List (List Nat)) (k : Nat) : tot (l.take k) + tot (l.drop k) = tot l := by rw [← tot_app, List.take_append_drop]
theorem tot_at {l : List (List Nat)} {k : Nat} (h : k < l.length) : tot (l.take k) + (l[k].length + 1 + tot (l.drop (k + 1))) = tot l := by
  rw [← tot_cons, ← List.drop_eq_getElem_cons h, tot_cut]
theorem tot_mem {l : List (List Nat)} {p : List Nat} (h : p ∈ l) : p.length + 1 ≤ tot l := by
  induction l with
  | nil => cases h
  | cons q r ih =>
    rw [tot_cons]
    rcases List.mem_cons.mp h with rfl | h
    · omega
    · have := ih h
      omega
theorem tot_len (l : List (List Nat)) : l.length ≤ tot l := by unfold tot; omega
theorem join_tot {c : Nat} {l : List (List Nat)} (h : l ≠ []) : (joinC [c] l).length + 1 = tot l := by
  have := joinC_sum (sep := [c]) h
  rw [List.length_singleton, Nat.mul_one] at this
  exact this
theorem split_tot {c : Nat} (t : List Nat) : tot (splitC c t) = t.length + 1 := by
  rw [← join_tot (c := c) (splitC_some c t), join_split]
theorem x_joinT {c n : Nat} {l : List (List Nat)} {M : MS} {Q : VQ} (hM : M[n]? = some (.lst (l.map .str))) (hl : tot l ≤ lim) (h : Q (.str (joinC [c] l)) M) : meth2 .join (.str [c]) [.ref n] M Q := by
  refine x_join' hM ?_ h
  rw [List.length_singleton, Nat.mul_one]
  exact hl
theorem x_slHS {s : List Nat} {i : Int} {M : MS} {Q : VQ} (hl : s.length ≤ lim) (h0 : 0 ≤ i) (h : Q (.str (s.take i.toNat)) M) : slice2 (.str s) [] [.int i] M Q := by
  simp only [slice2, partOf, if_pos h0, cutL, Option.getD, List.drop_zero, Nat.sub_zero]
  exact ⟨hl, h⟩
theorem x_slLS {s : List Nat} {i : Int} {M : MS} {Q : VQ} (hl : s.length ≤ lim) (h0 : 0 ≤ i) (h : Q (.str (s.drop i.toNat)) M) : slice2 (.str s) [.int i] [] M Q := by
  simp only [slice2, partOf, if_pos h0, cutL, Option.getD]
  rw [List.take_of_length_le (by rw [List.length_drop]; exact Nat.le_refl _)]
  exact ⟨hl, h⟩
theorem x_ixWrap {n : Nat} {ds : List D} {i : Int} {M : MS} {Q : VQ} (hM : M[n]? = some (.lst ds)) (h0 : -(ds.length : Int) ≤ i) (h1 : i < ds.length) (h : ∀ d ∈ ds, Q d M) : idx2 (.ref n) (.int i) M Q := by
  by_cases c : 0 ≤ i
  · exact x_ixAny hM c h1 h
  · have hj : (i + ds.length).toNat < ds.length := by omega
    have e : atI ds i = some ds[(i + ds.length).toNat] := by
      unfold atI ixN
      rw [if_neg c, if_pos h0]
      exact List.getElem?_eq_getElem hj
    exact x_ixL hM e (h _ (List.getElem_mem hj))
theorem map_mem {l : List (List Nat)} {d : D} (h : d ∈ l.map D.str) : ∃ w ∈ l, d = .str w := by
  obtain ⟨w, hw, rfl⟩ := List.mem_map.mp h
  exact ⟨w, hw, rfl⟩
theorem txt_dec {w : List Nat} (h : (w.all fun c => decide (c < 1114112)) = true) : TXT w := fun c hc => by
  rw [List.all_eq_true] at h
  exact of_decide_eq_true (h c hc)
theorem rep_one {k : Nat} : (List.replicate k [49]).flatten = List.replicate k 49 := by
  induction k with
  | zero => rfl
  | succ k ih => rw [List.replicate_succ, List.flatten_cons, ih]; rfl
theorem rep_txt (k : Nat) : TXT (List.replicate k 49) := fun c hc => by rw [List.eq_of_mem_replicate hc]; decide
theorem x_ixSAny {s : List Nat} {i : Int} {M : MS} {Q : VQ} (hl : s.length ≤ lim) (h0 : 0 ≤ i) (h1 : i < s.length) (h : ∀ c ∈ s, Q (.str [c]) M) : idx2 (.str s) (.int i) M Q := by
  have hj : i.toNat < s.length := by omega
  exact x_ixS hl (c := s[i.toNat]) (by rw [atI_in h0 h1, List.getElem?_eq_getElem hj]) (h _ (List.getElem_mem hj))
theorem gen_app {M N : MS} {P : MS → Prop} (h : ∀ M4, Gr M M4 → P M4) : P (M ++ N) := h _ (Gr.app _ _)
end Sl
/-! S1: how plain data and its store stand in the layer's heap. -/
namespace Sl
open PySem PySem.Spec PyProof.Rows L2

abbrev St := L2.St
/-- a text -/
def sOf (s : List Nat) : Str := ⟨s.toArray⟩
theorem sOf_inj {s t : List Nat} (h : sOf s = sOf t) : s = t := by
  have : (sOf s).cps.toList = (sOf t).cps.toList := by rw [h]
  simpa [sOf] using this

/-- the script: locked, or of the written part -/
def ROk (K : PySem.W.Frag) (H : Hp) (a : Addr) (vs : List V) : Prop := (∃ o, H a = some (.frz o (.lst vs))) ∨ ∀ H' : Hp, SqL K H' a vs
theorem ROk.sq {K : PySem.W.Frag} {H : Hp} {a : Addr} {vs : List V} (h : ROk K H a vs) : SqL K H a vs := by
  rcases h with ⟨o, h⟩ | h
  · exact .inl (.inr ⟨o, h⟩)
  · exact h H
variable {K : PySem.W.Frag}
mutual
inductive Rep (K : PySem.W.Frag) (H : Hp) (φ : List Addr) : V → D → Prop
  | non : Rep K H φ .non .non
  | bl (b : Bool) : Rep K H φ (.bl b) (.bool b)
  | int (i : Int) : Rep K H φ (.int i) (.int i)
  | str (s : List Nat) : Rep K H φ (.str (sOf s)) (.str s)
  | tup {a : Addr} {vs : List V} {ds : List D} : H a = some (.tup vs) → Reps K H φ vs ds → Rep K H φ (.ref a) (.tup ds)
  | ref {a : Addr} {n : Nat} : φ[n]? = some a → Rep K H φ (.ref a) (.ref n)
  | kl {a : Addr} {vs : List V} {ds : List D} : ROk K H a vs → Reps K H φ vs ds → Rep K H φ (.ref a) (.kl ds)
  | exc (a c : Nat) : Rep K H φ (.ref a) (.exc c a)
inductive Reps (K : PySem.W.Frag) (H : Hp) (φ : List Addr) : List V → List D → Prop
  | nil : Reps K H φ [] []
  | cons {v : V} {vs : List V} {d : D} {ds : List D} : Rep K H φ v d → Reps K H φ vs ds → Reps K H φ (v :: vs) (d :: ds)
end

/-- one store behind another: what was told stays -/
structure Fr (φ : List Addr) (H : Hp) (φ' : List Addr) (H' : Hp) : Prop where
  pre : φ <+: φ'
  keep : ∀ a o, H a = some o → a ∉ φ → H' a = some o
  tup : ∀ a xs, H a = some (.tup xs) → H' a = some (.tup xs)
  frz : ∀ a o u, H a = some (.frz o u) → H' a = some (.frz o u)
  new : ∀ a, a ∈ φ' → a ∉ φ → H a = none
  trk : ∀ a, H' a = none → H a = none
theorem Fr.refl (φ : List Addr) (H : Hp) : Fr φ H φ H := ⟨List.prefix_refl _, fun _ _ h _ => h, fun _ _ h => h, fun _ _ _ h => h, fun _ h n => absurd h n, fun _ h => h⟩
theorem upd_trk {H : Hp} {p : Addr} {u : HO} {a : Addr} (h : upd H p u a = none) : H a = none := by
  by_cases e : a = p
  · subst e; rw [upd_same] at h; cases h
  · rw [upd_ne e] at h; exact h
theorem Fr.trans {φ φ1 φ2 : List Addr} {H H1 H2 : Hp} (a : Fr φ H φ1 H1) (b : Fr φ1 H1 φ2 H2) : Fr φ H φ2 H2 where
  pre := a.pre.trans b.pre
  keep := fun x o h hn => by
    refine b.keep x o (a.keep x o h hn) fun hm => ?_
    rw [a.new x hm hn] at h
    cases h
  tup := fun x xs h => b.tup x xs (a.tup x xs h)
  frz := fun x o u h => b.frz x o u (a.frz x o u h)
  new := fun x hx hn => by
    by_cases h1 : x ∈ φ1
    · exact a.new x h1 hn
    · have h2 := b.new x hx h1
      cases q : H x with
      | none => rfl
      | some o =>
        rw [a.keep x o q hn] at h2
        cases h2
  trk := fun x h => a.trk x (b.trk x h)

theorem pre_get {φ φ' : List Addr} (h : φ <+: φ') {n : Nat} {a : Addr} (e : φ[n]? = some a) : φ'[n]? = some a := by
  obtain ⟨t, rfl⟩ := h
  have hlt : n < φ.length := (List.getElem?_eq_some_iff.mp e).1
  rw [List.getElem?_append_left hlt]
  exact e
mutual
theorem Rep.fr {φ φ' : List Addr} {H H' : Hp} (f : Fr φ H φ' H') : ∀ {v : V} {d : D}, Rep K H φ v d → Rep K H' φ' v d
  | _, _, .non => .non
  | _, _, .bl b => .bl b
  | _, _, .int i => .int i
  | _, _, .str s => .str s
  | _, _, .tup h r => .tup (f.tup _ _ h) (Reps.fr f r)
  | _, _, .ref h => .ref (pre_get f.pre h)
  | _, _, .kl h r => .kl (h.elim (fun ⟨o, q⟩ => .inl ⟨o, f.frz _ _ _ q⟩) .inr) (Reps.fr f r)
  | _, _, .exc a c => .exc a c
theorem Reps.fr {φ φ' : List Addr} {H H' : Hp} (f : Fr φ H φ' H') : ∀ {vs : List V} {ds : List D}, Reps K H φ vs ds → Reps K H' φ' vs ds
  | _, _, .nil => .nil
  | _, _, .cons r t => .cons (Rep.fr f r) (Reps.fr f t)
end
theorem Reps.len {φ : List Addr} {H : Hp} : ∀ {vs : List V} {ds : List D}, Reps K H φ vs ds → vs.length = ds.length
  | _, _, .nil => rfl
  | _, _, .cons _ t => by rw [List.length_cons, List.length_cons, Reps.len t]
theorem Reps.app {φ : List Addr} {H : Hp} : ∀ {vs ws : List V} {ds es : List D}, Reps K H φ vs ds → Reps K H φ ws es → Reps K H φ (vs ++ ws) (ds ++ es)
  | _, _, _, _, .nil, s => s
  | _, _, _, _, .cons r t, s => .cons r (Reps.app t s)
theorem Reps.get {φ : List Addr} {H : Hp} : ∀ {vs : List V} {ds : List D} {i : Nat} {d : D}, Reps K H φ vs ds → ds[i]? = some d → ∃ v, vs[i]? = some v ∧ Rep K H φ v d
  | _, _, _, _, .nil, e => by simp at e
  | _, _, 0, _, .cons r _, e => by simp at e; subst e; exact ⟨_, rfl, r⟩
  | _, _, i + 1, d, .cons _ t, e => by
    obtain ⟨v, h1, h2⟩ := Reps.get (i := i) (d := d) t (by simpa using e)
    exact ⟨v, by simpa using h1, h2⟩
theorem Reps.drop {φ : List Addr} {H : Hp} : ∀ {vs : List V} {ds : List D} (n : Nat), Reps K H φ vs ds → Reps K H φ (vs.drop n) (ds.drop n)
  | _, _, 0, r => r
  | _, _, _ + 1, .nil => .nil
  | _, _, n + 1, .cons _ t => Reps.drop n t
theorem Reps.take {φ : List Addr} {H : Hp} : ∀ {vs : List V} {ds : List D} (n : Nat), Reps K H φ vs ds → Reps K H φ (vs.take n) (ds.take n)
  | _, _, 0, _ => .nil
  | _, _, _ + 1, .nil => .nil
  | _, _, n + 1, .cons r t => .cons r (Reps.take n t)
theorem Reps.set {φ : List Addr} {H : Hp} {v : V} {d : D} (r : Rep K H φ v d) : ∀ {vs : List V} {ds : List D} (n : Nat), Reps K H φ vs ds → Reps K H φ (vs.set n v) (ds.set n d)
  | _, _, _, .nil => .nil
  | _, _, 0, .cons _ t => .cons r t
  | _, _, n + 1, .cons q t => .cons q (Reps.set r n t)
theorem Reps.dropLast {φ : List Addr} {H : Hp} {vs : List V} {ds : List D} (h : Reps K H φ vs ds) : Reps K H φ vs.dropLast ds.dropLast := by
  rw [List.dropLast_eq_take, List.dropLast_eq_take, h.len]
  exact h.take _
theorem Reps.erase {φ : List Addr} {H : Hp} : ∀ {vs : List V} {ds : List D} (n : Nat), Reps K H φ vs ds → Reps K H φ (vs.eraseIdx n) (ds.eraseIdx n)
  | _, _, _, .nil => .nil
  | _, _, 0, .cons _ t => t
  | _, _, n + 1, .cons q t => .cons q (Reps.erase n t)
theorem Reps.rev {φ : List Addr} {H : Hp} : ∀ {vs : List V} {ds : List D}, Reps K H φ vs ds → Reps K H φ vs.reverse ds.reverse
  | _, _, .nil => .nil
  | _, _, .cons r t => by
    rw [List.reverse_cons, List.reverse_cons]
    exact (Reps.rev t).app (.cons r .nil)

/-- a dict's pairs -/
inductive RKV (K : PySem.W.Frag) (H : Hp) (φ : List Addr) : List (Key × V) → List (Int × D) → Prop
  | nil : RKV K H φ [] []
  | cons {k : Int} {v : V} {d : D} {vs : List (Key × V)} {ds : List (Int × D)} : Rep K H φ v d → RKV K H φ vs ds → RKV K H φ ((.inl k, v) :: vs) ((k, d) :: ds)
theorem RKV.fr {φ φ' : List Addr} {H H' : Hp} (f : Fr φ H φ' H') {vs : List (Key × V)} {ds : List (Int × D)} (h : RKV K H φ vs ds) : RKV K H' φ' vs ds := by
  induction h with
  | nil => exact .nil
  | cons r _ ih => exact .cons (r.fr f) ih
theorem RKV.len {φ : List Addr} {H : Hp} {vs : List (Key × V)} {ds : List (Int × D)} (h : RKV K H φ vs ds) : vs.length = ds.length := by
  induction h with
  | nil => rfl
  | cons _ _ ih => rw [List.length_cons, List.length_cons, ih]
theorem RKV.keys {φ : List Addr} {H : Hp} {vs : List (Key × V)} {ds : List (Int × D)} (h : RKV K H φ vs ds) : vs.map (·.1) = (ds.map (·.1)).map Sum.inl := by
  induction h with
  | nil => rfl
  | cons _ _ ih => rw [List.map_cons, List.map_cons, List.map_cons, ih]
theorem inl_eq {a b : Int} : decide ((Sum.inl a : Key) = Sum.inl b) = decide (a = b) := by
  by_cases h : a = b
  · subst h; simp
  · simp [h]
theorem RKV.get {φ : List Addr} {H : Hp} {vs : List (Key × V)} {ds : List (Int × D)} (h : RKV K H φ vs ds) (k : Int) :
    match dget ds k with
    | some d => ∃ v, valV vs (Sum.inl k) = some v ∧ Rep K H φ v d
    | none => valV vs (Sum.inl k) = none := by
  induction h with
  | nil => rfl
  | @cons j v d vs ds r _ ih =>
    unfold dget valV at *
    rw [List.find?_cons, List.find?_cons]
    show (match Option.map (·.2) (match decide (j = k) with | true => some (j, d) | false => List.find? _ ds) with | some d => _ | none => _)
    rw [inl_eq]
    cases decide (j = k) with
    | true => exact ⟨v, rfl, r⟩
    | false => exact ih
theorem RKV.any {φ : List Addr} {H : Hp} {vs : List (Key × V)} {ds : List (Int × D)} (h : RKV K H φ vs ds) (k : Int) :
    (vs.any fun kv => decide (kv.1 = (Sum.inl k : Key))) = ds.any fun kv => decide (kv.1 = k) := by
  induction h with
  | nil => rfl
  | @cons j v d vs ds r _ ih =>
    rw [List.any_cons, List.any_cons, ih]
    show (decide ((Sum.inl j : Key) = Sum.inl k) || _) = (decide (j = k) || _)
    rw [inl_eq]
theorem RKV.app {φ : List Addr} {H : Hp} {vs ws : List (Key × V)} {ds es : List (Int × D)} (h : RKV K H φ vs ds) (g : RKV K H φ ws es) : RKV K H φ (vs ++ ws) (ds ++ es) := by
  induction h with
  | nil => exact g
  | cons r _ ih => exact .cons r ih
theorem RKV.put {φ : List Addr} {H : Hp} {vs : List (Key × V)} {ds : List (Int × D)} (h : RKV K H φ vs ds) {k : Int} {v : V} {d : D} (r : Rep K H φ v d) : RKV K H φ (putK vs (Sum.inl k) v) (dput ds k d) := by
  unfold putK dput
  rw [h.any k]
  by_cases c : (ds.any fun kv => decide (kv.1 = k)) = true
  · rw [if_pos c, if_pos c]
    clear c
    induction h with
    | nil => exact .nil
    | @cons j u e vs ds q _ ih =>
      rw [List.map_cons, List.map_cons]
      by_cases e1 : j = k
      · subst e1
        rw [if_pos rfl, if_pos rfl]
        exact .cons r ih
      · have e2 : ¬ ((Sum.inl j : Key) = Sum.inl k) := fun z => e1 (Sum.inl.inj z)
        rw [if_neg e2, if_neg (show ¬ (j, e).1 = k from e1)]
        exact .cons q ih
  · rw [if_neg c, if_neg c]
    exact h.app (.cons r .nil)
theorem RKV.drop {φ : List Addr} {H : Hp} {vs : List (Key × V)} {ds : List (Int × D)} (h : RKV K H φ vs ds) (k : Int) : RKV K H φ (dropK vs (Sum.inl k)) (ddrop ds k) := by
  unfold dropK ddrop
  induction h with
  | nil => exact .nil
  | @cons j u e vs ds q _ ih =>
    rw [List.filter_cons, List.filter_cons]
    by_cases e1 : j = k
    · subst e1
      simpa using ih
    · have e2 : ¬ ((Sum.inl j : Key) = Sum.inl k) := fun z => e1 (Sum.inl.inj z)
      rw [if_pos (by simpa using e2), if_pos (by simpa using e1)]
      exact .cons q ih

/-- the text's own class that has instances: the first thing known that has the method -/
def clsC (K : PySem.W.Frag) : Option Addr := (K.find? fun p => match PySem.W.findIn K (.ref p.1) "told" with
  | some (some _) => true
  | _ => false).map (·.1)
/-- an instance's attributes: the one name that its class keeps -/
inductive RFS (K : PySem.W.Frag) (H : Hp) (φ : List Addr) : List (Str × V) → List (Nat × D) → Prop
  | nil : RFS K H φ [] []
  | cons {v : V} {d : D} {gs : List (Str × V)} {fs : List (Nat × D)} : Rep K H φ v d → RFS K H φ gs fs → RFS K H φ (("kept", v) :: gs) ((0, d) :: fs)
theorem RFS.fr {K : PySem.W.Frag} {φ φ' : List Addr} {H H' : Hp} (f : Fr φ H φ' H') {gs : List (Str × V)} {fs : List (Nat × D)} (h : RFS K H φ gs fs) : RFS K H' φ' gs fs := by
  induction h with
  | nil => exact .nil
  | cons r _ ih => exact .cons (r.fr f) ih
theorem RFS.get {K : PySem.W.Frag} {H : Hp} {φ : List Addr} {gs : List (Str × V)} {fs : List (Nat × D)} (h : RFS K H φ gs fs) {d : D} (e : fs.lookup 0 = some d) : ∃ v, gs.lookup ("kept" : Str) = some v ∧ Rep K H φ v d := by
  cases h with
  | nil => cases e
  | cons r _ =>
    cases e
    exact ⟨_, rfl, r⟩
/-- an object of the store -/
def RMO (K : PySem.W.Frag) (H : Hp) (φ : List Addr) (a : Addr) : MO → Prop
  | .lst ds => ∃ vs, H a = some (.lst vs) ∧ Reps K H φ vs ds
  | .dict kvs => ∃ vs, H a = some (.dK vs) ∧ RKV K H φ vs kvs
  | .ldict kvs => ∃ o vs, H a = some (.frz o (.dK vs)) ∧ RKV K H φ vs kvs
  | .inst _ fs => ∃ C dx gs, H a = some (.ins C dx gs) ∧ clsC K = some C ∧ RFS K H φ gs fs
structure RM (K : PySem.W.Frag) (H : Hp) (φ : List Addr) (M : MS) : Prop where
  len : φ.length = M.length
  nd : φ.Nodup
  at_ : ∀ (n : Nat) (o : MO) (a : Addr), M[n]? = some o → φ[n]? = some a → RMO K H φ a o
/-- the places of the store -/
theorem RM.addr {K : PySem.W.Frag} {H : Hp} {φ : List Addr} {M : MS} (h : RM K H φ M) {n : Nat} {o : MO} (e : M[n]? = some o) : ∃ a, φ[n]? = some a ∧ RMO K H φ a o := by
  have hlt : n < M.length := (List.getElem?_eq_some_iff.mp e).1
  have hlt' : n < φ.length := by rw [h.len]; exact hlt
  exact ⟨φ[n], List.getElem?_eq_getElem hlt', h.at_ n o _ e (List.getElem?_eq_getElem hlt')⟩
theorem RM.refs {K : PySem.W.Frag} {H : Hp} {φ : List Addr} {M : MS} (h : RM K H φ M) {n : Nat} {o : MO} {v : V} (e : M[n]? = some o) (r : Rep K H φ v (.ref n)) : ∃ a, v = .ref a ∧ φ[n]? = some a ∧ RMO K H φ a o := by
  cases r with
  | ref q => exact ⟨_, rfl, q, h.at_ _ _ _ e q⟩
/-- slots -/
structure RS (K : PySem.W.Frag) (H : Hp) (φ : List Addr) (sv : St) (σ : Loc) : Prop where
  len : sv.length = σ.length
  get : ∀ (i : Nat) (d : D), σ[i]? = some (some d) → ∃ v, sv[i]? = some (some v) ∧ Rep K H φ v d
theorem RS.fr {φ φ' : List Addr} {H H' : Hp} (f : Fr φ H φ' H') {sv : St} {σ : Loc} (h : RS K H φ sv σ) : RS K H' φ' sv σ :=
  ⟨h.len, fun i d e => let ⟨v, h1, h2⟩ := h.get i d e; ⟨v, h1, h2.fr f⟩⟩
theorem RS.set {φ : List Addr} {H : Hp} {sv : St} {σ : Loc} {i : Nat} {v : V} {d : D} (h : RS K H φ sv σ) (r : Rep K H φ v d) : RS K H φ (sv.set i (some v)) (σ.set i (some d)) := by
  refine ⟨by rw [List.length_set, List.length_set]; exact h.len, fun j e hj => ?_⟩
  by_cases hji : i = j
  · subst hji
    have hlt : i < σ.length := by
      have := (List.getElem?_eq_some_iff.mp hj).1
      rwa [List.length_set] at this
    rw [List.getElem?_set_self hlt] at hj
    cases hj
    exact ⟨v, List.getElem?_set_self (by rw [h.len]; exact hlt), r⟩
  · rw [List.getElem?_set_ne hji] at hj
    obtain ⟨w, h1, h2⟩ := h.get j e hj
    exact ⟨w, by rw [List.getElem?_set_ne hji]; exact h1, h2⟩
theorem RS.wipe {φ : List Addr} {H : Hp} {sv : St} {σ : Loc} (h : RS K H φ sv σ) : ∀ vs : List Nat, RS K H φ (L2.wipe sv vs) (Sl.wipe σ vs)
  | [] => h
  | x :: vs => by
    have ih := RS.wipe h vs
    refine ⟨by show (List.set _ _ _).length = (List.set _ _ _).length; rw [List.length_set, List.length_set]; exact ih.len, fun j e hj => ?_⟩
    have hj : (List.set (Sl.wipe σ vs) x none)[j]? = some (some e) := hj
    show ∃ v, (List.set (L2.wipe sv vs) x none)[j]? = some (some v) ∧ _
    by_cases hji : x = j
    · subst hji
      by_cases hlt : x < (Sl.wipe σ vs).length
      · rw [List.getElem?_set_self hlt] at hj; cases hj
      · rw [List.getElem?_eq_none (by rw [List.length_set]; omega)] at hj; cases hj
    · rw [List.getElem?_set_ne hji] at hj
      obtain ⟨w, h1, h2⟩ := ih.get j e hj
      exact ⟨w, by rw [List.getElem?_set_ne hji]; exact h1, h2⟩

/-! ### what changes -/
theorem mem_of_get {φ : List Addr} {n : Nat} {a : Addr} (h : φ[n]? = some a) : a ∈ φ := List.mem_of_getElem? h
/-- a new untracked thing (a tuple) -/
theorem Fr.newT {φ : List Addr} {H : Hp} {p : Addr} {xs : List V} (hp : H p = none) : Fr φ H φ (upd H p (.tup xs)) where
  pre := List.prefix_refl _
  keep := fun a o h _ => by rw [upd_ne (ne_of_none h hp)]; exact h
  tup := fun a xs h => by rw [upd_ne (ne_of_none h hp)]; exact h
  frz := fun a o u h => by rw [upd_ne (ne_of_none h hp)]; exact h
  new := fun a h n => absurd h n
  trk := fun a h => upd_trk h
/-- what stands at a place of the store -/
theorem RMO.some {K : PySem.W.Frag} {H : Hp} {φ : List Addr} {a : Addr} {o : MO} (h : RMO K H φ a o) : ∃ u, H a = Option.some u := by
  cases o with
  | lst ds => obtain ⟨vs, e, _⟩ := h; exact ⟨_, e⟩
  | dict kvs => obtain ⟨vs, e, _⟩ := h; exact ⟨_, e⟩
  | ldict kvs => obtain ⟨o, vs, e, _⟩ := h; exact ⟨_, e⟩
  | inst c fs => obtain ⟨C, dx, gs, e, _⟩ := h; exact ⟨_, e⟩
theorem RM.mem {K : PySem.W.Frag} {H : Hp} {φ : List Addr} {M : MS} (h : RM K H φ M) {a : Addr} (ha : a ∈ φ) : ∃ u, H a = Option.some u := by
  obtain ⟨n, hn, rfl⟩ := List.mem_iff_getElem.mp ha
  have hn' : n < M.length := by rw [← h.len]; exact hn
  exact (h.at_ n _ _ (List.getElem?_eq_getElem hn') (List.getElem?_eq_getElem hn)).some
theorem RM.out {K : PySem.W.Frag} {H : Hp} {φ : List Addr} {M : MS} (h : RM K H φ M) {p : Addr} (hp : H p = Option.none) : p ∉ φ := fun z => by
  obtain ⟨u, q⟩ := h.mem z
  rw [hp] at q
  cases q
theorem RM.one {K : PySem.W.Frag} {H : Hp} {φ : List Addr} {M : MS} (h : RM K H φ M) {n m : Nat} {a : Addr} (e1 : φ[n]? = Option.some a) (e2 : φ[m]? = Option.some a) : n = m := by
  obtain ⟨l1, g1⟩ := List.getElem?_eq_some_iff.mp e1
  obtain ⟨l2, g2⟩ := List.getElem?_eq_some_iff.mp e2
  exact (List.getElem_inj h.nd).mp (g1.trans g2.symm)
/-- an object stands as it stood where its own place does -/
theorem RMO.at {K : PySem.W.Frag} {φ φ' : List Addr} {H H' : Hp} (f : Fr φ H φ' H') {a : Addr} {o : MO} (h : RMO K H φ a o) (e : ∀ u, H a = Option.some u → H' a = Option.some u) : RMO K H' φ' a o := by
  cases o with
  | lst ds => obtain ⟨vs, q, r⟩ := h; exact ⟨vs, e _ q, r.fr f⟩
  | dict kvs => obtain ⟨vs, q, r⟩ := h; exact ⟨vs, e _ q, r.fr f⟩
  | ldict kvs => obtain ⟨o, vs, q, r⟩ := h; exact ⟨o, vs, e _ q, r.fr f⟩
  | inst c fs => obtain ⟨C, dx, gs, q, cc, r⟩ := h; exact ⟨C, dx, gs, e _ q, cc, r.fr f⟩
/-- nothing of the store's changes -/
theorem RM.keep {K : PySem.W.Frag} {φ : List Addr} {H H' : Hp} {M : MS} (f : Fr φ H φ H') (e : ∀ a ∈ φ, ∀ u, H a = some u → H' a = some u) (h : RM K H φ M) : RM K H' φ M :=
  ⟨h.len, h.nd, fun n o a e1 e2 => (h.at_ n o a e1 e2).at f (e a (mem_of_get e2))⟩
theorem RM.newT {K : PySem.W.Frag} {φ : List Addr} {H : Hp} {M : MS} {p : Addr} {xs : List V} (hp : H p = none) (h : RM K H φ M) : RM K (upd H p (.tup xs)) φ M :=
  h.keep (Fr.newT hp) fun a _ u q => by rw [upd_ne (ne_of_none q hp)]; exact q
/-- a new object of the store -/
theorem Fr.newO {φ : List Addr} {H : Hp} {p : Addr} {u : HO} (hp : H p = none) : Fr φ H (φ ++ [p]) (upd H p u) where
  pre := List.prefix_append _ _
  keep := fun a o h _ => by rw [upd_ne (ne_of_none h hp)]; exact h
  tup := fun a xs h => by rw [upd_ne (ne_of_none h hp)]; exact h
  frz := fun a o u h => by rw [upd_ne (ne_of_none h hp)]; exact h
  new := fun a h n => by
    rcases List.mem_append.mp h with h | h
    · exact absurd h n
    · rw [List.mem_singleton.mp h]; exact hp
  trk := fun a h => upd_trk h
theorem app_get {α : Type} {l : List α} {x : α} {n : Nat} {y : α} (h : (l ++ [x])[n]? = some y) : l[n]? = some y ∨ (n = l.length ∧ y = x) := by
  by_cases c : n < l.length
  · rw [List.getElem?_append_left c] at h; exact .inl h
  · rw [List.getElem?_append_right (by omega)] at h
    have : n - l.length = 0 := by
      have := (List.getElem?_eq_some_iff.mp h).1
      simp at this
      omega
    rw [this] at h
    simp at h
    exact .inr ⟨by omega, h.symm⟩
theorem nd_snoc1 {φ : List Addr} {p : Addr} (h : φ.Nodup) (hp : p ∉ φ) : (φ ++ [p]).Nodup := by
  rw [List.nodup_append]
  refine ⟨h, by simp, fun a ha b hb e => ?_⟩
  rw [List.mem_singleton.mp hb] at e
  exact hp (e ▸ ha)
theorem RM.newO {K : PySem.W.Frag} {φ : List Addr} {H : Hp} {M : MS} {p : Addr} {u : HO} {o : MO} (hp : H p = none) (h : RM K H φ M) (new : RMO K (L2.upd H p u) (φ ++ [p]) p o) : RM K (L2.upd H p u) (φ ++ [p]) (M ++ [o]) where
  len := by rw [List.length_append, List.length_append, h.len]; rfl
  nd := nd_snoc1 h.nd (h.out hp)
  at_ := fun n x a e1 e2 => by
    have kl := h.len
    rcases app_get e1 with g1 | ⟨n1, p1⟩ <;> rcases app_get e2 with g2 | ⟨n2, p2⟩
    · exact (h.at_ n x a g1 g2).at (Fr.newO hp) fun u q => by rw [upd_ne (ne_of_none q hp)]; exact q
    · have := (List.getElem?_eq_some_iff.mp g1).1; omega
    · have := (List.getElem?_eq_some_iff.mp g2).1; omega
    · rw [p1, p2]; exact new
/-- an object of the store changes: u stood at its place, no tuple and nothing locked -/
theorem Fr.upd {φ : List Addr} {H : Hp} {a : Addr} {u u' : HO} (ha : a ∈ φ) (e : H a = some u) (h1 : ∀ xs, u ≠ .tup xs) (h2 : ∀ o w, u ≠ .frz o w) : Fr φ H φ (L2.upd H a u') where
  pre := List.prefix_refl _
  keep := fun b o h n => by rw [upd_ne (fun z => n (by rw [z]; exact ha))]; exact h
  tup := fun b xs h => by
    rw [upd_ne (fun z => by subst z; rw [e] at h; cases h; exact h1 _ rfl)]; exact h
  frz := fun b o w h => by
    rw [upd_ne (fun z => by subst z; rw [e] at h; cases h; exact h2 _ _ rfl)]; exact h
  new := fun b h n => absurd h n
  trk := fun a h => upd_trk h
theorem set_get {α : Type} {l : List α} {n m : Nat} {x y : α} (h : (l.set n x)[m]? = some y) : (m ≠ n ∧ l[m]? = some y) ∨ (m = n ∧ y = x) := by
  by_cases c : n = m
  · subst c
    have hlt : n < l.length := by
      have := (List.getElem?_eq_some_iff.mp h).1
      rwa [List.length_set] at this
    rw [List.getElem?_set_self hlt] at h
    cases h
    exact .inr ⟨rfl, rfl⟩
  · rw [List.getElem?_set_ne c] at h
    exact .inl ⟨fun e => c e.symm, h⟩
theorem RM.upd {K : PySem.W.Frag} {φ : List Addr} {H : Hp} {M : MS} {n : Nat} {a : Addr} {u u' : HO} {o o' : MO} (h : RM K H φ M) (eM : M[n]? = some o) (ea : φ[n]? = some a) (e : H a = some u)
    (h1 : ∀ xs, u ≠ .tup xs) (h2 : ∀ o w, u ≠ .frz o w) (new : RMO K (L2.upd H a u') φ a o') : RM K (L2.upd H a u') φ (M.set n o') where
  len := by rw [List.length_set]; exact h.len
  nd := h.nd
  at_ := fun i x b e1 e2 => by
    rcases set_get e1 with ⟨ne, g1⟩ | ⟨i1, p1⟩
    · have hb : b ≠ a := fun z => ne (h.one (z ▸ e2) ea)
      exact (h.at_ i x b g1 e2).at (Fr.upd (mem_of_get ea) e h1 h2) fun w q => by rw [upd_ne hb]; exact q
    · subst i1
      rw [ea] at e2
      cases e2
      rw [p1]
      exact new
end Sl
/-! S2: operators, built-ins, methods by values. -/
namespace Sl
open PySem PySem.Spec PyProof.Rows L2

structure Post (K : PySem.W.Frag) (φ : List Addr) (H : Hp) (Q : VK) (Qp : VQ) : Prop where
  ok : ∀ (φ' : List Addr) (v : V) (d : D) (M' : MS) (H' : Hp), Fr φ H φ' H' → RM K H' φ' M' → Rep K H' φ' v d → Qp d M' → Q v H'
theorem Post.fr {K : PySem.W.Frag} {φ φ1 : List Addr} {H H1 : Hp} {Q : VK} {Qp : VQ} (f : Fr φ H φ1 H1) (p : Post K φ H Q Qp) : Post K φ1 H1 Q Qp :=
  ⟨fun φ' v d M' H' f' => p.ok φ' v d M' H' (f.trans f')⟩
theorem sz {n : Nat} (h : n ≤ lim) : n ≤ sizeLine := Nat.le_trans h (by decide)
theorem szl {n : Nat} (h : n < lim) : n < sizeLine := Nat.lt_of_lt_of_le h (by decide)
section
variable {K : PySem.W.Frag} {φ : List Addr} {H : Hp} {M : MS} {Q : VK} {Qp : VQ}
/-- the answer is there already -/
theorem Post.here (p : Post K φ H Q Qp) (m : RM K H φ M) {v : V} {d : D} (r : Rep K H φ v d) (h : Qp d M) : Q v H := p.ok φ v d M H (Fr.refl _ _) m r h
/-- the answer is a new tuple, a new list, a new dict -/
theorem Post.tup (p : Post K φ H Q Qp) (m : RM K H φ M) {vs : List V} {ds : List D} (r : Reps K H φ vs ds) (h : Qp (.tup ds) M) {q : Addr} (hq : H q = none) : Q (.ref q) (upd H q (.tup vs)) :=
  p.ok φ _ _ M _ (Fr.newT hq) (m.newT hq) (.tup upd_same (r.fr (Fr.newT hq))) h
theorem Post.obj (p : Post K φ H Q Qp) (m : RM K H φ M) {u : HO} {o : MO} {q : Addr} (hq : H q = none) (new : RMO K (upd H q u) (φ ++ [q]) q o) (h : Qp (.ref M.length) (M ++ [o])) : Q (.ref q) (upd H q u) :=
  p.ok (φ ++ [q]) _ _ (M ++ [o]) _ (Fr.newO hq) (m.newO hq new) (.ref (by rw [← m.len, List.getElem?_append_right (Nat.le_refl _), Nat.sub_self]; rfl)) h
theorem Post.lst (p : Post K φ H Q Qp) (m : RM K H φ M) {vs : List V} {ds : List D} (r : Reps K H φ vs ds) (h : Qp (.ref M.length) (M ++ [.lst ds])) {q : Addr} (hq : H q = none) : Q (.ref q) (upd H q (.lst vs)) :=
  p.obj (o := .lst ds) m hq ⟨vs, upd_same, r.fr (Fr.newO hq)⟩ h
/-- an object of the store is changed -/
theorem Post.set (p : Post K φ H Q Qp) (m : RM K H φ M) {n : Nat} {a : Addr} {u u' : HO} {o o' : MO} (eM : M[n]? = some o) (ea : φ[n]? = some a) (e : H a = some u)
    (h1 : ∀ xs, u ≠ .tup xs) (h2 : ∀ o w, u ≠ .frz o w) (new : RMO K (upd H a u') φ a o') {v : V} {d : D} (r : Rep K H φ v d) (h : Qp d (M.set n o')) : Q v (upd H a u') :=
  p.ok φ v d _ _ (Fr.upd (mem_of_get ea) e h1 h2) (m.upd eM ea e h1 h2 new) (r.fr (Fr.upd (mem_of_get ea) e h1 h2)) h
theorem Post.setL (p : Post K φ H Q Qp) (m : RM K H φ M) {n : Nat} {a : Addr} {vs ws : List V} {ds es : List D} (eM : M[n]? = some (.lst ds)) (ea : φ[n]? = some a) (e : H a = some (.lst vs)) (rw' : Reps K H φ ws es)
    {v : V} {d : D} (r : Rep K H φ v d) (h : Qp d (M.set n (.lst es))) : Q v (upd H a (.lst ws)) :=
  p.set (o' := .lst es) (u' := .lst ws) m eM ea e (fun _ z => by cases z) (fun _ _ z => by cases z) ⟨ws, upd_same, rw'.fr (Fr.upd (mem_of_get ea) e (fun _ z => by cases z) (fun _ _ z => by cases z))⟩ r h
theorem Post.setD (p : Post K φ H Q Qp) (m : RM K H φ M) {n : Nat} {a : Addr} {vs ws : List (Key × V)} {ds es : List (Int × D)} (eM : M[n]? = some (.dict ds)) (ea : φ[n]? = some a) (e : H a = some (.dK vs)) (rw' : RKV K H φ ws es)
    {v : V} {d : D} (r : Rep K H φ v d) (h : Qp d (M.set n (.dict es))) : Q v (upd H a (.dK ws)) :=
  p.set (o' := .dict es) (u' := .dK ws) m eM ea e (fun _ z => by cases z) (fun _ _ z => by cases z) ⟨ws, upd_same, rw'.fr (Fr.upd (mem_of_get ea) e (fun _ z => by cases z) (fun _ _ z => by cases z))⟩ r h
/-- a list of the store -/
theorem RM.sq (m : RM K H φ M) {n : Nat} {a : Addr} {ds : List D} (eM : M[n]? = some (.lst ds)) (ea : φ[n]? = some a) : ∃ vs, SqL K H a vs ∧ Reps K H φ vs ds := by
  obtain ⟨vs, h, r⟩ := m.at_ n _ a eM ea
  exact ⟨vs, .inl (.inl h), r⟩
end

section
variable {X : Cx}
def OpD (X : Cx) (f : Value → Value → Sem Value) (w : D → D → MS → VQ → Prop) : Prop :=
  ∀ (pins : List (Addr × Obj)) (s : Shared) (sv : St) (H : Hp) (x y : V) (v u : Value) (φ : List Addr) (M : MS) (d e : D) (Q : VK) (Qp : VQ),
    Inv X pins sv H s → RelV x v → RelV y u → RM X.K H φ M → Rep X.K H φ x d → Rep X.K H φ y e → w d e M Qp → Post X.K φ H Q Qp → wpAny (model X.prog X.w) X.A (f v u) (EP X pins sv Q) X.xe s

theorem sm_log {i : Int} (h : Sm i) : i.natAbs.log2 < 8000 := by
  unfold Sm at h
  exact PySem.Flt.log2_lt_of (by decide) h

theorem od_add : OpD X (binaryOp .Add) (bin2 .add) := by
  intro pins s sv H x y v u φ M d e Q Qp I rv ru m rx ry h p
  cases rx <;> cases ry <;> first | exact h.elim | skip
  · exact op_add pins s sv H _ _ v u Q I rv ru ⟨_, _, rfl, rfl, p.here m (.int _) h⟩
  · rename_i a b
    obtain ⟨h1, h⟩ := h
    refine op_add_str pins s sv H _ _ v u Q I rv ru ⟨_, _, rfl, rfl, ?_, ?_⟩
    · show (sOf a).cps.size + (sOf b).cps.size ≤ sizeLine
      simp only [sOf, List.size_toArray]; exact sz h1
    · have e : (sOf a ++ sOf b : Str) = sOf (a ++ b) := by
        show (⟨a.toArray ++ b.toArray⟩ : Str) = ⟨(a ++ b).toArray⟩
        rw [List.append_toArray]
      rw [e]
      exact p.here m (.str _) h
  · rename_i a xs ds ha r1 b ys es hb r2
    obtain ⟨h1, h⟩ := h
    refine op_catA pins s sv H _ _ v u Q I rv ru ⟨_, _, xs, ys, rfl, rfl, SqT.of ha, SqT.of hb, ?_, fun q => ?_, fun _ q => ?_, fun _ _ l hl => ?_⟩
    · rw [r1.len, r2.len]; exact sz h1
    · subst q
      cases r1
      exact p.here m (.tup hb r2) h
    · subst q
      cases r2
      rw [List.append_nil] at h
      exact p.here m (.tup ha r1) h
    · exact p.tup m (r1.app r2) h hl
  · rename_i a n f1 b k f2
    simp only [bin2] at h
    split at h
    · rename_i ds es e1 e2
      obtain ⟨h1, h⟩ := h
      obtain ⟨vs, q1, r1⟩ := m.at_ _ _ _ e1 f1
      obtain ⟨ws, q2, r2⟩ := m.at_ _ _ _ e2 f2
      exact op_cat pins s sv H _ _ v u Q I rv ru ⟨_, _, vs, ws, rfl, rfl, q1, q2, by rw [r1.len, r2.len]; exact sz h1, fun l hl => p.lst m (r1.app r2) h hl⟩
    · exact h.elim
theorem od_sub : OpD X (binaryOp .Sub) (bin2 .sub) := by
  intro pins s sv H x y v u φ M d e Q Qp I rv ru m rx ry h p
  cases rx <;> cases ry <;> first | exact h.elim | skip
  exact op_sub pins s sv H _ _ v u Q I rv ru ⟨_, _, rfl, rfl, p.here m (.int _) h⟩
theorem rep_arr {α : Type} (z : List α) : ∀ (k : Nat) (a : Array α), ((List.replicate k z.toArray).foldl (· ++ ·) a).toList = a.toList ++ (List.replicate k z).flatten
  | 0, a => by simp
  | k + 1, a => by
    rw [List.replicate_succ, List.replicate_succ, List.foldl_cons, rep_arr z k, List.flatten_cons]
    simp
/-- a text, many times -/
theorem mul_text {pins : List (Addr × Obj)} {s : Shared} {sv : St} {H : Hp} {z : List Nat} {k : Int} {v u : Value} {Q : VK} (I : Inv X pins sv H s) (rv : RelV (.str (sOf z)) v) (ru : RelV (.int k) u) (h1 : 2 ≤ k) (h2 : k ≤ 10000) (h3 : z ≠ []) (h4 : z.length ≤ 100)
    (q : Q (.str (sOf (List.replicate k.toNat z).flatten)) H) : wpAny (model X.prog X.w) X.A (binaryOp .Mult v u) (EP X pins sv Q) X.xe s := by
  obtain ⟨t, rfl⟩ := rv
  obtain ⟨t2, rfl⟩ := ru
  have hl : (sOf z).length = z.length := TL.len_tl _
  have hpos : 0 < z.length := List.length_pos_iff.mpr h3
  have hz : z.length * k.toNat ≤ 1000000 := Nat.le_trans (Nat.mul_le_mul h4 (show k.toNat ≤ 10000 by omega)) (by decide)
  have n1 : (k == 1 || (sOf z).length == 0) = false := by
    rw [hl]
    simp
    exact ⟨by omega, h3⟩
  have fits : PySem.Builtin.Str.tooLong ((sOf z).length * k.toNat) = false := by
    unfold PySem.Builtin.Str.tooLong
    rw [hl]
    exact decide_eq_false (Nat.not_lt.mpr (Nat.le_trans hz (by decide)))
  have ej : (⟨(List.replicate k.toNat (sOf z).cps).foldl (· ++ ·) #[]⟩ : Str) = sOf (List.replicate k.toNat z).flatten := by
    refine TL.ext_tl ?_
    have := rep_arr z k.toNat #[]
    rw [show (#[] : Array Nat).toList = [] from rfl, List.nil_append] at this
    exact this
  refine P.mul_str (by simp; omega) (fun _ _ z' => ?_) (fun _ _ => fits) ?_
  · rw [hl] at z'
    have z' : (2 ^ 63 - 1) / k < (z.length : Int) := z'
    have e : (2 ^ 63 - 1 : Int) < (z.length : Int) * k := by
      have y := Int.lt_mul_of_ediv_lt (a := 2 ^ 63 - 1) (b := (z.length : Int)) (c := k) (by omega) z'
      first
      | exact y
      | (rw [Int.mul_comm]; exact y)
    have e2 : (z.length : Int) * k ≤ 100 * 10000 := Int.mul_le_mul (by omega) h2 (by omega) (by decide)
    omega
  · rw [if_neg (by omega), n1, if_neg Bool.false_ne_true, ej]
    refine ⟨?_, ⟨.str _, H, I.kept fun _ _ e => e, ⟨_, rfl⟩, q⟩⟩
    have e2 : (sOf (List.replicate k.toNat z).flatten).length = z.length * k.toNat := by
      refine (TL.len_tl _).trans ?_
      show ((List.replicate k.toNat z).flatten).length = _
      rw [List.length_flatten, List.map_replicate, List.sum_replicate_nat, Nat.mul_comm]
    rw [e2]
    exact Nat.le_trans hz (by decide)
theorem od_mul : OpD X (binaryOp .Mult) (bin2 .mul) := by
  intro pins s sv H x y v u φ M d e Q Qp I rv ru m rx ry h p
  cases rx <;> cases ry <;> first | exact h.elim | skip
  · obtain ⟨h1, h2, h⟩ := h
    refine op_mulW pins s sv H _ _ v u Q I rv ru ⟨_, _, rfl, rfl, ?_, p.here m (.int _) h⟩
    have := sm_log h1
    have := sm_log h2
    unfold CMulW
    omega
  · rename_i z k
    obtain ⟨h1, h2, h3, h4, h⟩ := h
    exact mul_text I rv ru h1 h2 h3 h4 (p.here m (.str _) h)
  · rename_i a n f1 k
    simp only [bin2] at h
    split at h
    · rename_i ds e1
      obtain ⟨h0, h1, h2, h⟩ := h
      obtain ⟨vs, q1, r1⟩ := m.at_ _ _ _ e1 f1
      have rep : ∀ j : Nat, Reps X.K H φ (List.replicate j vs).flatten (List.replicate j ds).flatten := by
        intro j
        induction j with
        | zero => exact .nil
        | succ j ih =>
          rw [List.replicate_succ, List.replicate_succ, List.flatten_cons, List.flatten_cons]
          exact r1.app ih
      refine op_rep pins s sv H _ _ v u Q I rv ru ⟨_, k, vs, rfl, rfl, q1, by omega, by omega, ?_, fun l hl => p.lst m (rep _) h hl⟩
      rw [r1.len]
      have : ds.length * k.toNat ≤ 1000 * 1000 := Nat.mul_le_mul h2 (by omega)
      exact Nat.le_trans this (by decide)
    · exact h.elim
theorem od_fdiv : OpD X (binaryOp .FloorDiv) (bin2 .fdiv) := by
  intro pins s sv H x y v u φ M d e Q Qp I rv ru m rx ry h p
  cases rx <;> cases ry <;> first | exact h.elim | skip
  obtain ⟨h1, h2, h⟩ := h
  refine op_fdivW pins s sv H _ _ v u Q I rv ru ⟨_, _, rfl, rfl, ⟨h1, ?_⟩, p.here m (.int _) h⟩
  have := sm_log h2
  omega
theorem od_mod : OpD X (binaryOp .Mod) (bin2 .mod) := by
  intro pins s sv H x y v u φ M d e Q Qp I rv ru m rx ry h p
  cases rx <;> cases ry <;> first | exact h.elim | skip
  obtain ⟨h1, h⟩ := h
  exact op_mod pins s sv H _ _ v u Q I rv ru ⟨_, _, rfl, rfl, h1, p.here m (.int _) h⟩
theorem od_pow : OpD X (binaryOp .Pow) (bin2 .pow) := by
  intro pins s sv H x y v u φ M d e Q Qp I rv ru m rx ry h p
  cases rx <;> cases ry <;> first | exact h.elim | skip
  obtain ⟨h1, h2, h3, h⟩ := h
  exact op_pow pins s sv H _ _ v u Q I rv ru ⟨_, _, rfl, rfl, ⟨h1, h2, h3⟩, p.here m (.int _) h⟩

/-! ### comparisons -/
/-- what a comparison wants, as a wish of values -/
def cmpQ (o : Cmp) (d e : D) (M : MS) (Q : VQ) : Prop := cmp2 o d e M fun k => Q (.bool k) M
theorem od_lt : OpD X (compareOp .Lt) (cmpQ .lt) := by
  intro pins s sv H x y v u φ M d e Q Qp I rv ru m rx ry h p
  cases rx <;> cases ry <;> first | exact h.elim | skip
  exact op_lt pins s sv H _ _ v u Q I rv ru ⟨_, _, rfl, rfl, p.here m (.bl _) h⟩
theorem od_le : OpD X (compareOp .LtE) (cmpQ .le) := by
  intro pins s sv H x y v u φ M d e Q Qp I rv ru m rx ry h p
  cases rx <;> cases ry <;> first | exact h.elim | skip
  exact op_le pins s sv H _ _ v u Q I rv ru ⟨_, _, rfl, rfl, p.here m (.bl _) h⟩
theorem od_gt : OpD X (compareOp .Gt) (cmpQ .gt) := by
  intro pins s sv H x y v u φ M d e Q Qp I rv ru m rx ry h p
  cases rx <;> cases ry <;> first | exact h.elim | skip
  exact op_gt pins s sv H _ _ v u Q I rv ru ⟨_, _, rfl, rfl, p.here m (.bl _) h⟩
theorem od_ge : OpD X (compareOp .GtE) (cmpQ .ge) := by
  intro pins s sv H x y v u φ M d e Q Qp I rv ru m rx ry h p
  cases rx <;> cases ry <;> first | exact h.elim | skip
  exact op_ge pins s sv H _ _ v u Q I rv ru ⟨_, _, rfl, rfl, p.here m (.bl _) h⟩

/-! data as the library's == reads it -/
mutual
def toP : D → PyData
  | .non => .none
  | .bool b => .bool b
  | .int i => .int i
  | .str s => .str (sOf s)
  | .tup ds => .tuple (toPs ds)
  | .lv ds => .list (toPs ds)
  | .ref _ => .none
  | .exc _ _ => .none
  | .kl _ => .none
def toPs : List D → List PyData
  | [] => []
  | d :: ds => toP d :: toPs ds
end
theorem str_beq (x y : List Nat) : (sOf x == sOf y) = (x == y) := by
  by_cases e : x = y
  · subst e; simp
  · have : ¬ sOf x = sOf y := fun z => e (sOf_inj z)
    rw [beq_eq_false_iff_ne.mpr this, beq_eq_false_iff_ne.mpr e]
/-- what == may look at -/
theorem okN_pos {k : Nat} {d : D} (h : okN k d = true) : ∃ j, k = j + 1 := by
  cases k with
  | zero => simp [okN] at h
  | succ j => exact ⟨j, rfl⟩
mutual
theorem eqv_toP : ∀ (k j : Nat) (d e : D), okN k d = true → okN j e = true → (toP d).eqv (toP e) = eqv d e
  | k + 1, j + 1, .non, e, h1, h2 => by cases e <;> simp_all [toP, PyData.eqv, eqv, okN]
  | k + 1, j + 1, .bool b, e, h1, h2 => by cases e <;> simp_all [toP, PyData.eqv, eqv, okN]
  | k + 1, j + 1, .int i, e, h1, h2 => by cases e <;> simp_all [toP, PyData.eqv, eqv, okN]
  | k + 1, j + 1, .str s, e, h1, h2 => by
    cases e <;> first | (simp [toP, PyData.eqv, eqv, str_beq]; done) | simp_all [toP, PyData.eqv, eqv, okN]
  | k + 1, j + 1, .tup ds, .tup es, h1, h2 => by
    rw [toP, toP, PyData.eqv, eqv]
    exact eqvs_toP k j ds es (by simpa [okN] using h1) (by simpa [okN] using h2)
  | k + 1, j + 1, .lv ds, .lv es, h1, h2 => by
    rw [toP, toP, PyData.eqv, eqv]
    exact eqvs_toP k j ds es (by simpa [okN] using h1) (by simpa [okN] using h2)
  | k + 1, j + 1, .tup ds, .non, h1, h2 => by simp [toP, PyData.eqv, eqv]
  | k + 1, j + 1, .tup ds, .bool _, h1, h2 => by simp [toP, PyData.eqv, eqv]
  | k + 1, j + 1, .tup ds, .int _, h1, h2 => by simp [toP, PyData.eqv, eqv]
  | k + 1, j + 1, .tup ds, .str _, h1, h2 => by simp [toP, PyData.eqv, eqv]
  | k + 1, j + 1, .tup ds, .lv _, h1, h2 => by simp [toP, PyData.eqv, eqv]
  | k + 1, j + 1, .lv ds, .non, h1, h2 => by simp [toP, PyData.eqv, eqv]
  | k + 1, j + 1, .lv ds, .bool _, h1, h2 => by simp [toP, PyData.eqv, eqv]
  | k + 1, j + 1, .lv ds, .int _, h1, h2 => by simp [toP, PyData.eqv, eqv]
  | k + 1, j + 1, .lv ds, .str _, h1, h2 => by simp [toP, PyData.eqv, eqv]
  | k + 1, j + 1, .lv ds, .tup _, h1, h2 => by simp [toP, PyData.eqv, eqv]
  | k + 1, j + 1, .tup _, .ref _, h1, h2 => by simp [okN] at h2
  | k + 1, j + 1, .tup _, .exc _ _, h1, h2 => by simp [okN] at h2
  | k + 1, j + 1, .tup _, .kl _, h1, h2 => by simp [okN] at h2
  | k + 1, j + 1, .lv _, .ref _, h1, h2 => by simp [okN] at h2
  | k + 1, j + 1, .lv _, .exc _ _, h1, h2 => by simp [okN] at h2
  | k + 1, j + 1, .lv _, .kl _, h1, h2 => by simp [okN] at h2
  | k + 1, j + 1, .ref _, _, h1, h2 => by simp [okN] at h1
  | k + 1, j + 1, .exc _ _, _, h1, h2 => by simp [okN] at h1
  | k + 1, j + 1, .kl _, _, h1, h2 => by simp [okN] at h1
  | 0, _, _, _, h1, _ => by simp [okN] at h1
  | _ + 1, 0, _, _, _, h2 => by simp [okN] at h2
theorem eqvs_toP : ∀ (k j : Nat) (ds es : List D), (∀ d ∈ ds, okN k d = true) → (∀ e ∈ es, okN j e = true) → PyData.eqvAll (toPs ds) (toPs es) = eqvs ds es
  | _, _, [], [], _, _ => by rw [toPs, PyData.eqvAll, eqvs]
  | _, _, [], e :: es, _, _ => by rw [toPs, toPs, PyData.eqvAll, eqvs]
  | _, _, d :: ds, [], _, _ => by rw [toPs, toPs, PyData.eqvAll, eqvs]
  | k, j, d :: ds, e :: es, h1, h2 => by
    rw [toPs, toPs, PyData.eqvAll, eqvs, eqv_toP k j d e (h1 d List.mem_cons_self) (h2 e List.mem_cons_self),
      eqvs_toP k j ds es (fun d hd => h1 d (List.mem_cons_of_mem _ hd)) (fun e he => h2 e (List.mem_cons_of_mem _ he))]
end
mutual
theorem can_toP : ∀ (k : Nat) (d : D), okN k d = true → (toP d).canLay0 = true ∧ (toP d).depth ≤ k
  | k + 1, .non, _ => ⟨by simp [toP, PyData.canLay0], by simp [toP, PyData.depth]⟩
  | k + 1, .bool _, _ => ⟨by simp [toP, PyData.canLay0], by simp [toP, PyData.depth]⟩
  | k + 1, .int _, _ => ⟨by simp [toP, PyData.canLay0], by simp [toP, PyData.depth]⟩
  | k + 1, .str s, h => by
    refine ⟨?_, by simp [toP, PyData.depth]⟩
    rw [toP, PyData.canLay0]
    have h' : (s.all fun c => decide (c < 1114112)) = true := by simpa [okN] using h
    show (sOf s).cps.all (· < 0x110000) = true
    simpa [sOf] using h'
  | k + 1, .tup ds, h => by
    have q := cans_toP k ds (by simpa [okN] using h)
    exact ⟨by rw [toP, PyData.canLay0]; exact q.1, by rw [toP, PyData.depth]; omega⟩
  | k + 1, .lv ds, h => by
    have q := cans_toP k ds (by simpa [okN] using h)
    exact ⟨by rw [toP, PyData.canLay0]; exact q.1, by rw [toP, PyData.depth]; omega⟩
  | k + 1, .ref _, h => by simp [okN] at h
  | k + 1, .exc _ _, h => by simp [okN] at h
  | k + 1, .kl _, h => by simp [okN] at h
  | 0, _, h => by simp [okN] at h
theorem cans_toP : ∀ (k : Nat) (ds : List D), (∀ d ∈ ds, okN k d = true) → PyData.canLayAll0 (toPs ds) = true ∧ PyData.depthAll (toPs ds) ≤ k
  | k, [], _ => ⟨by rw [toPs, PyData.canLayAll0], by rw [toPs, PyData.depthAll]; omega⟩
  | k, d :: ds, h => by
    have q := can_toP k d (h d List.mem_cons_self)
    have r := cans_toP k ds fun d hd => h d (List.mem_cons_of_mem _ hd)
    refine ⟨by rw [toPs, PyData.canLayAll0, q.1, r.1]; rfl, ?_⟩
    rw [toPs, PyData.depthAll]
    omega
end
theorem shaped_toP {d : D} (h : okN 60 d = true) : SeqAt.shaped (toP d) = true := by
  have q := can_toP 60 d h
  show ((toP d).canLay0 && decide ((toP d).depth ≤ 64)) = true
  rw [q.1]
  simp only [Bool.true_and, decide_eq_true_eq]
  omega
/-! what data with its lists told stands for -/
mutual
theorem dp_of {K : PySem.W.Frag} {H : Hp} {φ : List Addr} {f : Nat → Option D} (hf : ∀ (n : Nat) (r : D) (v : V), f n = some r → Rep K H φ v (.ref n) → Dp K H v (toP r)) :
    ∀ (d r : D) (v : V), resF f d = some r → Rep K H φ v d → Dp K H v (toP r)
  | .non, r, _, h, .non => by
    have h : some D.non = some r := by simpa [resF] using h
    cases h; exact .non
  | .bool b, r, _, h, .bl _ => by
    have h : some (D.bool b) = some r := by simpa [resF] using h
    cases h; exact .bl b
  | .int i, r, _, h, .int _ => by
    have h : some (D.int i) = some r := by simpa [resF] using h
    cases h; exact .int i
  | .str x, r, _, h, .str _ => by
    have h : some (D.str x) = some r := by simpa [resF] using h
    cases h; exact .str _
  | .tup ds, r, _, h, .tup ha rs => by
    rw [resF] at h
    split at h
    · rename_i es he
      cases h
      exact .tup (SqT.of ha) (dps_of hf ds es _ he rs)
    · cases h
  | .ref n, r, v, h, q => by
    rw [resF] at h
    exact hf n r v h q
theorem dps_of {K : PySem.W.Frag} {H : Hp} {φ : List Addr} {f : Nat → Option D} (hf : ∀ (n : Nat) (r : D) (v : V), f n = some r → Rep K H φ v (.ref n) → Dp K H v (toP r)) :
    ∀ (ds es : List D) (vs : List V), resFs f ds = some es → Reps K H φ vs ds → DpAll K H vs (toPs es)
  | [], es, _, h, .nil => by
    have h : some ([] : List D) = some es := by simpa [resFs] using h
    cases h; exact .nil
  | d :: ds, es, _, h, .cons r rs => by
    rw [resFs] at h
    split at h
    · rename_i e1 h1
      split at h
      · rename_i e2 h2
        cases h
        exact .cons (dp_of hf d e1 _ h1 r) (dps_of hf ds e2 _ h2 rs)
      · cases h
    · cases h
end
theorem dp_res {K : PySem.W.Frag} {H : Hp} {φ : List Addr} {M : MS} (m : RM K H φ M) : ∀ (k n : Nat) (r : D) (v : V), resN M k n = some r → Rep K H φ v (.ref n) → Dp K H v (toP r)
  | 0, n, r, v, h, _ => by simp [resN] at h
  | k + 1, n, r, v, h, q => by
    rw [resN] at h
    split at h
    · rename_i ds e
      split at h
      · rename_i es he
        cases h
        obtain ⟨a, rfl, ea, _⟩ := m.refs e q
        obtain ⟨vs, hs, rs⟩ := m.sq e ea
        exact .lst hs (dps_of (dp_res m k) ds es vs he rs)
      · cases h
    · cases h

/-- == and != -/
theorem eq_core {K : PySem.W.Frag} {H : Hp} {φ : List Addr} {M : MS} {x y : V} {d e : D} {Q : Bool → Prop} (m : RM K H φ M) (rx : Rep K H φ x d) (ry : Rep K H φ y e) (h : wEq d e M Q) :
    (∃ d' e', Dp K H x d' ∧ Dp K H y e' ∧ SeqAt.shaped d' = true ∧ SeqAt.shaped e' = true ∧ Q (PyData.eqv d' e')) ∨ (scal x y = true ∧ Q (decide (x = y))) := by
  unfold wEq at h
  by_cases c : isSc d = true ∧ isSc e = true
  · rw [if_pos c] at h
    have non : ∀ {b : Bool}, Q b → ∀ b', b = b' → Q b' := fun q b' z => z ▸ q
    cases rx <;> cases ry <;> first
      | (exfalso; obtain ⟨c1, c2⟩ := c; first | exact absurd c1 (by decide) | exact absurd c2 (by decide) | (simp [isSc] at c1; done) | (simp [isSc] at c2; done))
      | (rename_i a b; refine .inr ⟨rfl, non h _ ?_⟩; rw [eqv, Bool.beq_eq_decide_eq]; exact decide_eq_decide.mpr ⟨fun z => congrArg V.str (congrArg sOf z), fun z => sOf_inj (V.str.inj z)⟩)
      | (refine .inr ⟨rfl, non h _ ?_⟩; first | (simp [eqv]; done) | (simp only [eqv]; exact (Bool.beq_eq_decide_eq _ _).trans (by simp)) | (rename_i a b; rw [eqv, Bool.beq_eq_decide_eq]; by_cases z : a = b <;> simp [z, sOf]))
      | (refine .inl ⟨.bool _, .int _, .bl _, .int _, by simp [SeqAt.shaped, PyData.canLay0, PyData.depth], by simp [SeqAt.shaped, PyData.canLay0, PyData.depth], ?_⟩; simpa [eqv, PyData.eqv] using h)
      | (refine .inl ⟨.int _, .bool _, .int _, .bl _, by simp [SeqAt.shaped, PyData.canLay0, PyData.depth], by simp [SeqAt.shaped, PyData.canLay0, PyData.depth], ?_⟩; simpa [eqv, PyData.eqv] using h)
  · rw [if_neg c] at h
    split at h
    · rename_i r s h1 h2
      obtain ⟨o1, o2, h⟩ := h
      refine .inl ⟨toP r, toP s, dp_of (dp_res m 6) d r x h1 rx, dp_of (dp_res m 6) e s y h2 ry, shaped_toP o1, shaped_toP o2, ?_⟩
      rw [eqv_toP 60 60 r s o1 o2]
      exact h
    · exact h.elim
section
variable {X : Cx}
theorem od_eq (hu : X.A.units + 64 < cLine) : OpD X (compareOp .Eq) (cmpQ .eq) := by
  intro pins s sv H x y v u φ M d e Q Qp I rv ru m rx ry h p
  rcases eq_core m rx ry (Q := fun k => Qp (.bool k) M) h with ⟨d', e', h1, h2, h3, h4, q⟩ | ⟨h1, q⟩
  · exact op_eqD hu pins s sv H _ _ v u Q I rv ru ⟨d', e', h1, h2, h3, h4, p.here m (.bl _) q⟩
  · exact op_eq pins s sv H _ _ v u Q I rv ru ⟨h1, p.here m (.bl _) q⟩
theorem od_ne (hu : X.A.units + 64 < cLine) : OpD X (compareOp .NotEq) (cmpQ .ne) := by
  intro pins s sv H x y v u φ M d e Q Qp I rv ru m rx ry h p
  rcases eq_core m rx ry (Q := fun k => Qp (.bool (!k)) M) h with ⟨d', e', h1, h2, h3, h4, q⟩ | ⟨h1, q⟩
  · exact op_neD hu pins s sv H _ _ v u Q I rv ru ⟨d', e', h1, h2, h3, h4, p.here m (.bl _) q⟩
  · exact op_ne pins s sv H _ _ v u Q I rv ru ⟨h1, p.here m (.bl _) q⟩

/-! ### is -/
theorem od_is : OpD X (compareOp .Is) (cmpQ .is_) := by
  intro pins s sv H x y v u φ M d e Q Qp I rv ru m rx ry h p
  cases ry with
  | non =>
    refine op_isN pins s sv H _ _ v u Q I rv ru ⟨rfl, ?_⟩
    cases rx <;> first | exact p.here m (.bl _) h | exact False.elim h
  | bl b =>
    cases rx with
    | bl a =>
      refine op_isBl pins s sv H _ _ v u Q I rv ru ⟨a, b, rfl, rfl, p.here m (.bl _) ?_⟩
      have h : Qp (.bool (a == b)) M := h
      rw [Bool.beq_eq_decide_eq] at h
      exact h
    | _ => exact h.elim
  | _ => cases rx <;> exact h.elim
theorem od_isnot : OpD X (compareOp .IsNot) (cmpQ .isnot) := by
  intro pins s sv H x y v u φ M d e Q Qp I rv ru m rx ry h p
  cases ry with
  | non =>
    refine op_notN pins s sv H _ _ v u Q I rv ru ⟨rfl, ?_⟩
    cases rx <;> first | exact p.here m (.bl _) h | exact False.elim h
  | bl b =>
    cases rx with
    | bl a =>
      refine op_notBl pins s sv H _ _ v u Q I rv ru ⟨a, b, rfl, rfl, p.here m (.bl _) ?_⟩
      have h : Qp (.bool (!(a == b))) M := h
      rw [Bool.beq_eq_decide_eq] at h
      exact h
    | _ => exact h.elim
  | _ => cases rx <;> exact h.elim

/-! ### in -/
theorem ints_rep {K : PySem.W.Frag} {φ : List Addr} {H : Hp} : ∀ {vs : List V} {ds : List D} {ns : List Int}, Reps K H φ vs ds → intsOf ds = some ns → vs = ns.map V.int
  | _, _, ns, .nil, h => by
    have h : some ([] : List Int) = some ns := by simpa [intsOf] using h
    cases h; rfl
  | _, _, ns, .cons (.int i) t, h => by
    rw [intsOf] at h
    cases q : intsOf _ with
    | none => rw [q] at h; cases h
    | some ms =>
      rw [q] at h; cases h
      rw [List.map_cons, ints_rep t q]
  | _, _, _, .cons .non _, h => by simp [intsOf] at h
  | _, _, _, .cons (.bl _) _, h => by simp [intsOf] at h
  | _, _, _, .cons (.str _) _, h => by simp [intsOf] at h
  | _, _, _, .cons (.tup _ _) _, h => by simp [intsOf] at h
  | _, _, _, .cons (.ref _) _, h => by simp [intsOf] at h
  | _, _, _, .cons (.kl _ _) _, h => by simp [intsOf] at h
theorem strs_rep {K : PySem.W.Frag} {φ : List Addr} {H : Hp} : ∀ {vs : List V} {ds : List D} {ns : List (List Nat)}, Reps K H φ vs ds → strsOf ds = some ns → vs = (ns.map sOf).map V.str
  | _, _, ns, .nil, h => by
    have h : some ([] : List (List Nat)) = some ns := by simpa [strsOf] using h
    cases h; rfl
  | _, _, ns, .cons (.str i) t, h => by
    rw [strsOf] at h
    cases q : strsOf _ with
    | none => rw [q] at h; cases h
    | some ms =>
      rw [q] at h; cases h
      rw [List.map_cons, List.map_cons, strs_rep t q]
  | _, _, _, .cons .non _, h => by simp [strsOf] at h
  | _, _, _, .cons (.bl _) _, h => by simp [strsOf] at h
  | _, _, _, .cons (.int _) _, h => by simp [strsOf] at h
  | _, _, _, .cons (.tup _ _) _, h => by simp [strsOf] at h
  | _, _, _, .cons (.ref _) _, h => by simp [strsOf] at h
  | _, _, _, .cons (.kl _ _) _, h => by simp [strsOf] at h
theorem bools_rep {K : PySem.W.Frag} {φ : List Addr} {H : Hp} : ∀ {vs : List V} {ds : List D} {ns : List Bool}, Reps K H φ vs ds → boolsOf ds = some ns → vs = ns.map V.bl
  | _, _, ns, .nil, h => by
    have h : some ([] : List Bool) = some ns := by simpa [boolsOf] using h
    cases h; rfl
  | _, _, ns, .cons (.bl i) t, h => by
    rw [boolsOf] at h
    cases q : boolsOf _ with
    | none => rw [q] at h; cases h
    | some ms =>
      rw [q] at h; cases h
      rw [List.map_cons, bools_rep t q]
  | _, _, _, .cons .non _, h => by simp [boolsOf] at h
  | _, _, _, .cons (.str _) _, h => by simp [boolsOf] at h
  | _, _, _, .cons (.int _) _, h => by simp [boolsOf] at h
  | _, _, _, .cons (.tup _ _) _, h => by simp [boolsOf] at h
  | _, _, _, .cons (.ref _) _, h => by simp [boolsOf] at h
  | _, _, _, .cons (.kl _ _) _, h => by simp [boolsOf] at h
theorem inV_ints (i : Int) (ns : List Int) : L2.inV (.int i) (ns.map V.int) = decide (i ∈ ns) := by
  induction ns with
  | nil => rfl
  | cons n ns ih =>
    show ((eqV (.int n) (.int i)) || L2.inV (.int i) (ns.map V.int)) = _
    rw [ih]
    show ((n == i) || decide (i ∈ ns)) = decide (i ∈ n :: ns)
    by_cases e : n = i
    · subst e; simp
    · simp [e, Ne.symm e, show ¬ i = n from fun z => e z.symm]
theorem inV_strs (i : List Nat) (ns : List (List Nat)) : L2.inV (.str (sOf i)) ((ns.map sOf).map V.str) = decide (i ∈ ns) := by
  induction ns with
  | nil => rfl
  | cons n ns ih =>
    show ((eqV (.str (sOf n)) (.str (sOf i))) || L2.inV (.str (sOf i)) ((ns.map sOf).map V.str)) = _
    rw [ih]
    show ((sOf n == sOf i) || decide (i ∈ ns)) = decide (i ∈ n :: ns)
    rw [str_beq]
    by_cases e : n = i
    · subst e; simp
    · simp [e, show ¬ i = n from fun z => e z.symm]
/-- x in a sequence: what the layer's rule asks -/
theorem inSeq_rep {K : PySem.W.Frag} {φ : List Addr} {H : Hp} {x : V} {d : D} {vs : List V} {ds : List D} {b : Bool} (rx : Rep K H φ x d) (r : Reps K H φ vs ds) (h : inSeq d ds = some b) : flatV x = true ∧ vs.all flatV = true ∧ L2.inV x vs = b := by
  have fi : ∀ ns : List Int, (ns.map V.int).all flatV = true := fun ns => by
    rw [List.all_eq_true]
    intro v hv
    obtain ⟨n, _, rfl⟩ := List.mem_map.mp hv
    rfl
  have fs : ∀ ns : List (List Nat), ((ns.map sOf).map V.str).all flatV = true := fun ns => by
    rw [List.all_eq_true]
    intro v hv
    obtain ⟨n, _, rfl⟩ := List.mem_map.mp hv
    rfl
  cases rx with
  | int i =>
    rw [inSeq] at h
    cases q : intsOf ds with
    | none => rw [q] at h; cases h
    | some ns =>
      rw [q] at h; cases h
      rw [ints_rep r q]
      exact ⟨rfl, fi ns, inV_ints i ns⟩
  | str i =>
    rw [inSeq] at h
    cases q : strsOf ds with
    | none => rw [q] at h; cases h
    | some ns =>
      rw [q] at h; cases h
      rw [strs_rep r q]
      exact ⟨rfl, fs ns, inV_strs i ns⟩
  | non => simp [inSeq] at h
  | bl _ => simp [inSeq] at h
  | tup _ _ => simp [inSeq] at h
  | ref _ => simp [inSeq] at h
  | kl _ _ => simp [inSeq] at h
  | exc _ _ => simp [inSeq] at h
end
end
end Sl
/-! S3: in, items, slices, built-ins, methods by values. -/
namespace Sl
open PySem PySem.Spec PyProof.Rows L2
section
variable {X : Cx}
/-- what x in y is, by what y is -/
theorem in_core (hu : X.A.units + 1 < cLine) {pins : List (Addr × Obj)} {s : Shared} {sv : St} {H : Hp} {x y : V} {v u : Value} {φ : List Addr} {M : MS} {d e : D} {b : Bool} {Q : VK} (I : Inv X pins sv H s) (rv : RelV x v) (ru : RelV y u)
    (m : RM X.K H φ M) (rx : Rep X.K H φ x d) (ry : Rep X.K H φ y e) (h : inV M d e = some b) :
    (Q (.bl b) H → wpAny (model X.prog X.w) X.A (compareOp .In v u) (EP X pins sv Q) X.xe s) ∧ (Q (.bl (!b)) H → wpAny (model X.prog X.w) X.A (compareOp .NotIn v u) (EP X pins sv Q) X.xe s) := by
  have seq : ∀ {p : Addr} {vs : List V} {ds : List D}, y = .ref p → (SqL X.K H p vs ∨ SqT X.K H p vs) → Reps X.K H φ vs ds → inSeq d ds = some b →
      (Q (.bl b) H → wpAny (model X.prog X.w) X.A (compareOp .In v u) (EP X pins sv Q) X.xe s) ∧ (Q (.bl (!b)) H → wpAny (model X.prog X.w) X.A (compareOp .NotIn v u) (EP X pins sv Q) X.xe s) := by
    intro p vs ds e1 hs r hb
    obtain ⟨f1, f2, f3⟩ := inSeq_rep rx r hb
    refine ⟨fun q => op_in_seq pins s sv H _ _ v u Q I rv ru ⟨p, vs, e1, hs, f1, f2, ?_⟩, fun q => op_notIn_seq pins s sv H _ _ v u Q I rv ru ⟨p, vs, e1, hs, f1, f2, ?_⟩⟩
    · rw [f3]; exact q
    · rw [f3]; exact q
  cases ry with
  | @tup a vs ds ha r =>
    refine seq rfl (.inr (SqT.of ha)) r ?_
    cases d <;> simpa [inV] using h
  | @ref a n f =>
    have key : ∀ o, M[n]? = some o → (match o with
        | .lst ds => inSeq d ds
        | .dict kvs => (match d with | .int k => some (dget kvs k).isSome | _ => none)
        | .ldict kvs => (match d with | .int k => some (dget kvs k).isSome | _ => none)
        | _ => none) = some b := by
      intro o ho
      cases d <;> (simp only [inV, ho] at h; cases o <;> simpa using h)
    cases hM : M[n]? with
    | none => exfalso; cases d <;> simp [inV, hM] at h
    | some o =>
      have h := key o hM
      cases o with
      | lst ds =>
        obtain ⟨vs, hs, r⟩ := m.sq hM f
        exact seq rfl (.inl hs) r h
      | dict kvs =>
        obtain ⟨vs, hs, r⟩ := m.at_ n _ a hM f
        cases rx with
        | int k =>
          have g := r.get k
          have hg : DGet H a (.int k) (valV vs (Sum.inl k)) := DGet.k (k := Sum.inl k) hs
          have hb : (valV vs (Sum.inl k)).isSome = b := by
            cases q : dget kvs k with
            | none => rw [q] at g; rw [g]; simpa [q] using h
            | some d' =>
              rw [q] at g
              obtain ⟨w, g, _⟩ := g
              rw [g]; simpa [q] using h
          obtain rfl : u = Value.ref a := ru
          exact ⟨fun q => d_in hu I hg rv fun s' I' => ⟨.bl _, H, I', rfl, by rw [hb]; exact q⟩, fun q => d_notIn hu I hg rv fun s' I' => ⟨.bl _, H, I', rfl, by rw [hb]; exact q⟩⟩
        | _ => simp at h
      | ldict kvs =>
        obtain ⟨o, vs, hs, r⟩ := m.at_ n _ a hM f
        cases rx with
        | int k =>
          have g := r.get k
          have hg : DGet H a (.int k) (valV vs (Sum.inl k)) := .inl ⟨vs, Sum.inl k, .inr ⟨o, hs⟩, rfl, rfl⟩
          have hb : (valV vs (Sum.inl k)).isSome = b := by
            cases q : dget kvs k with
            | none => rw [q] at g; rw [g]; simpa [q] using h
            | some d' =>
              rw [q] at g
              obtain ⟨w, g, _⟩ := g
              rw [g]; simpa [q] using h
          obtain rfl : u = Value.ref a := ru
          exact ⟨fun q => d_in hu I hg rv fun s' I' => ⟨.bl _, H, I', rfl, by rw [hb]; exact q⟩, fun q => d_notIn hu I hg rv fun s' I' => ⟨.bl _, H, I', rfl, by rw [hb]; exact q⟩⟩
        | _ => simp at h
      | inst _ _ => simp at h
  | str z =>
    cases rx with
    | str xs =>
      match xs, h with
      | [c], h =>
        have h : some (decide (c ∈ z)) = some b := by simpa [inV] using h
        have hb : decide (c ∈ (sOf z).cps.toList) = b := by
          have : (sOf z).cps.toList = z := by simp [sOf]
          rw [this]; exact Option.some.inj h
        exact ⟨fun q => op_in_sign pins s sv H _ _ v u Q I rv ru ⟨c, sOf z, rfl, rfl, by rw [hb]; exact q⟩, fun q => op_notIn_sign pins s sv H _ _ v u Q I rv ru ⟨c, sOf z, rfl, rfl, by rw [hb]; exact q⟩⟩
      | [], h => simp [inV] at h
      | _ :: _ :: _, h => simp [inV] at h
    | _ => simp [inV] at h
  | non => cases rx <;> simp [inV] at h
  | bl _ => cases rx <;> simp [inV] at h
  | int _ => cases rx <;> simp [inV] at h
  | kl _ _ => cases rx <;> simp [inV] at h
  | exc _ _ => cases rx <;> simp [inV] at h
theorem od_in (hu : X.A.units + 1 < cLine) : OpD X (compareOp .In) (cmpQ .isin) := by
  intro pins s sv H x y v u φ M d e Q Qp I rv ru m rx ry h p
  have h : (match inV M d e with | some b => Qp (.bool (b)) M | none => False) := h
  cases hb : inV M d e with
  | none => rw [hb] at h; exact h.elim
  | some b =>
    rw [hb] at h
    exact (in_core hu I rv ru m rx ry hb).1 (p.here m (.bl _) h)
theorem od_notin (hu : X.A.units + 1 < cLine) : OpD X (compareOp .NotIn) (cmpQ .notin) := by
  intro pins s sv H x y v u φ M d e Q Qp I rv ru m rx ry h p
  have h : (match inV M d e with | some b => Qp (.bool (!b)) M | none => False) := h
  cases hb : inV M d e with
  | none => rw [hb] at h; exact h.elim
  | some b =>
    rw [hb] at h
    exact (in_core hu I rv ru m rx ry hb).2 (p.here m (.bl _) h)

/-! ### items -/
theorem atI_rep {K : PySem.W.Frag} {φ : List Addr} {H : Hp} {vs : List V} {ds : List D} {i : Int} {d : D} (r : Reps K H φ vs ds) (h : Sl.atI ds i = some d) : ∃ v, L2.atI vs i = some v ∧ Rep K H φ v d := by
  have e : L2.ixN vs.length i = Sl.ixN ds.length i := by rw [r.len]; rfl
  unfold Sl.atI at h
  unfold L2.atI
  rw [e]
  cases q : Sl.ixN ds.length i with
  | none => rw [q] at h; cases h
  | some j =>
    rw [q] at h
    exact r.get h
/-- a subscript by values -/
def IxD (X : Cx) (w : D → D → MS → VQ → Prop) : Prop :=
  ∀ (value slice : Expr) (pins : List (Addr × Obj)) (s : Shared) (sv : St) (H : Hp) (x y : V) (v u : Value) (φ : List Addr) (M : MS) (d e : D) (Q : VK) (Qp : VQ),
    Inv X pins sv H s → RelV x v → RelV y u → RM X.K H φ M → Rep X.K H φ x d → Rep X.K H φ y e → w d e M Qp → Post X.K φ H Q Qp →
    subscripted slice false v u = operate [v, u] (getItem v u) → wpAny (model X.prog X.w) X.A (subscriptTail value slice v u) (EP X pins sv Q) X.xe s
theorem ixd (hu : X.A.units + 1 < cLine) : IxD X idx2 := by
  intro value slice pins s sv H x y v u φ M d e Q Qp I rv ru m rx ry h p hs
  have list : ∀ {a : Addr} {n : Nat} {ds : List D} {i : Int}, x = .ref a → y = .int i → M[n]? = some (.lst ds) → φ[n]? = some a →
      (match Sl.atI ds i with | some d => Qp d M | none => False) → wpAny (model X.prog X.w) X.A (subscriptTail value slice v u) (EP X pins sv Q) X.xe s := by
    intro a n ds i e1 e2 hM f h
    obtain ⟨vs, hq, r⟩ := m.sq hM f
    cases ha : Sl.atI ds i with
    | none => rw [ha] at h; exact h.elim
    | some d' =>
      rw [ha] at h
      obtain ⟨w, hw, rw'⟩ := atI_rep r ha
      exact ix_list value slice pins s sv H _ _ v u Q I rv ru ⟨a, vs, i, w, e1, e2, hq, hw, p.here m rw' h⟩ hs
  have dic : ∀ {a : Addr} {kvs : List (Int × D)} {vs : List (Key × V)} {i : Int}, x = .ref a → y = .int i → Rd H a (.dK vs) → RKV X.K H φ vs kvs →
      (match dget kvs i with | some d => Qp d M | none => False) → wpAny (model X.prog X.w) X.A (subscriptTail value slice v u) (EP X pins sv Q) X.xe s := by
    intro a kvs vs i e1 e2 hr r h
    subst e1 e2
    have g := r.get i
    cases ha : dget kvs i with
    | none => rw [ha] at h; exact h.elim
    | some d' =>
      rw [ha] at h g
      obtain ⟨w, hw, rw'⟩ := g
      have hg : DGet H a (.int i) (some w) := .inl ⟨vs, Sum.inl i, hr, rfl, hw.symm⟩
      obtain rfl : v = Value.ref a := rv
      exact tail_any (dict_typeIs I hg) PySem.F.slot_dict_getitem.lookup (d_getItem hu I hg ru fun w' s' I' r' => ⟨w, H, I', r', p.here m rw' h⟩) hs
  cases rx with
  | tup ha r =>
    cases ry with
    | int i =>
      have h : (match Sl.atI _ i with | some d => Qp d M | none => False) := h
      cases hq : Sl.atI _ i with
      | none => rw [hq] at h; exact h.elim
      | some d' =>
        rw [hq] at h
        obtain ⟨w, hw, rw'⟩ := atI_rep r hq
        exact ix_tup value slice pins s sv H _ _ v u Q I rv ru ⟨_, _, i, w, rfl, rfl, SqT.of ha, hw, p.here m rw' h⟩ hs
    | _ => exact h.elim
  | str z =>
    cases ry with
    | int i =>
      obtain ⟨h1, h⟩ := h
      cases hq : Sl.atI z i with
      | none => rw [hq] at h; exact h.elim
      | some c =>
        rw [hq] at h
        have e : L2.atI (sOf z).cps.toList i = some c := by
          have : (sOf z).cps.toList = z := by simp [sOf]
          rw [this]; exact hq
        refine ix_str value slice pins s sv H _ _ v u Q I rv ru ⟨sOf z, i, c, rfl, rfl, ?_, e, p.here m (.str [c]) h⟩ hs
        show (sOf z).cps.size ≤ sizeLine
        simp only [sOf, List.size_toArray]; exact sz h1
    | _ => exact h.elim
  | @ref a n f =>
    cases ry with
    | int i =>
      simp only [idx2] at h
      cases hM : M[n]? with
      | none => rw [hM] at h; exact h.elim
      | some o =>
        rw [hM] at h
        cases o with
        | lst ds => exact list rfl rfl hM f h
        | dict kvs =>
          obtain ⟨vs, q, r⟩ := m.at_ n _ a hM f
          exact dic rfl rfl (.inl q) r h
        | ldict kvs =>
          obtain ⟨o, vs, q, r⟩ := m.at_ n _ a hM f
          exact dic rfl rfl (.inr ⟨o, q⟩) r h
        | inst _ _ => exact h.elim
    | _ => exact h.elim
  | exc _ _ => cases ry <;> exact False.elim h
  | kl hk r =>
    cases ry with
    | int i =>
      have h : (match Sl.atI _ i with | some d => Qp d M | none => False) := h
      cases hq : Sl.atI _ i with
      | none => rw [hq] at h; exact h.elim
      | some d' =>
        rw [hq] at h
        obtain ⟨w, hw, rw'⟩ := atI_rep r hq
        exact ix_list value slice pins s sv H _ _ v u Q I rv ru ⟨_, _, i, w, rfl, rfl, hk.sq, hw, p.here m rw' h⟩ hs
    | _ => exact h.elim
  | non => cases ry <;> exact h.elim
  | bl _ => cases ry <;> exact h.elim
  | int _ => cases ry <;> exact h.elim

/-! ### slices -/
theorem cut_eq {α : Type} (n : Nat) (l h : Option Nat) (xs : List α) (hn : xs.length = n) :
    (xs.drop (HT.sIx n 0 (l.map Int.ofNat))).take (HT.sIx n n (h.map Int.ofNat) - HT.sIx n 0 (l.map Int.ofNat)) = cutL xs l h := by
  have a1 : ∀ k : Nat, HT.sIx n 0 (some (Int.ofNat k)) = min k n := fun k => HT.sIx_nat n 0 k
  have a2 : ∀ k : Nat, HT.sIx n n (some (Int.ofNat k)) = min k n := fun k => HT.sIx_nat n n k
  have fin : ∀ a b : Nat, (xs.drop (min a n)).take (min b n - min a n) = (xs.drop a).take (b - a) := by
    intro a b
    by_cases ha : a ≤ n
    · rw [Nat.min_eq_left ha]
      by_cases hb : b ≤ n
      · rw [Nat.min_eq_left hb]
      · rw [Nat.min_eq_right (by omega)]
        rw [List.take_of_length_le (by rw [List.length_drop]; omega), List.take_of_length_le (by rw [List.length_drop]; omega)]
    · rw [show min a n = n by omega, List.drop_of_length_le (show xs.length ≤ n by omega), List.drop_of_length_le (show xs.length ≤ a by omega), List.take_nil, List.take_nil]
  unfold cutL
  cases l with
  | none =>
    cases h with
    | none =>
      show (xs.drop 0).take (n - 0) = (xs.drop 0).take (xs.length - 0)
      rw [hn]
    | some b =>
      show (xs.drop 0).take (HT.sIx n n (some (Int.ofNat b)) - 0) = (xs.drop 0).take (b - 0)
      rw [a2]
      have := fin 0 b
      simpa using this
  | some a =>
    cases h with
    | none =>
      show (xs.drop (HT.sIx n 0 (some (Int.ofNat a)))).take (n - HT.sIx n 0 (some (Int.ofNat a))) = (xs.drop a).take (xs.length - a)
      rw [a1, hn]
      have := fin a n
      rw [Nat.min_self] at this
      exact this
    | some b =>
      show (xs.drop (HT.sIx n 0 (some (Int.ofNat a)))).take (HT.sIx n n (some (Int.ofNat b)) - HT.sIx n 0 (some (Int.ofNat a))) = (xs.drop a).take (b - a)
      rw [a1, a2]
      exact fin a b
theorem cutV_rep {K : PySem.W.Frag} {φ : List Addr} {H : Hp} {vs : List V} {ds : List D} (r : Reps K H φ vs ds) (l h : Option Nat) : Reps K H φ (cutV vs (l.map Int.ofNat) (h.map Int.ofNat)) (cutL ds l h) := by
  rw [← cut_eq ds.length l h ds rfl]
  unfold cutV
  rw [r.len]
  exact (r.drop _).take _
theorem part_int {K : PySem.W.Frag} {φ : List Addr} {H : Hp} {vs : List V} {ds : List D} {o : Option Nat} (r : Reps K H φ vs ds) (h : partOf ds = some o) : (vs = [] ∧ o = none) ∨ ∃ n : Nat, vs = [.int n] ∧ o = some n := by
  cases r with
  | nil => left; exact ⟨rfl, by simpa [partOf] using h.symm⟩
  | cons a t =>
    cases t with
    | nil =>
      cases a with
      | int i =>
        right
        have h : (if 0 ≤ i then some (some i.toNat) else none) = some o := h
        by_cases hi : 0 ≤ i
        · rw [if_pos hi] at h
          refine ⟨i.toNat, ?_, (Option.some.inj h).symm⟩
          rw [Int.toNat_of_nonneg hi]
        · rw [if_neg hi] at h; cases h
      | _ => simp [partOf] at h
    | cons b t => cases a <;> simp [partOf] at h

/-- a slice by values -/
theorem sld {pins : List (Addr × Obj)} {s : Shared} {sv : St} {H : Hp} {x : V} {v vl vu : Value} {φ : List Addr} {M : MS} {d : D} {lo hi : List D} {l h : Option Nat} {sl : Addr} {Q : VK} {Qp : VQ}
    (I : Inv X pins sv H s) (rv : RelV x v) (hsl : s.heap.IsSliceOf sl vl vu .none) (pl : IsPart vl (l.map Int.ofNat)) (pu : IsPart vu (h.map Int.ofNat)) (m : RM X.K H φ M) (rx : Rep X.K H φ x d)
    (hl : partOf lo = some l) (hh : partOf hi = some h) (w : slice2 d lo hi M Qp) (p : Post X.K φ H Q Qp) :
    ∃ T id, typeLookup (.type T) "__getitem__" = pure (some (.builtin id)) ∧ s.TypeIs v T ∧ wpAny (model X.prog X.w) X.A (getItem v (.ref sl)) (EP X pins sv Q) X.xe s := by
  unfold slice2 at w
  rw [hl, hh] at w
  cases rx with
  | @tup a vs ds ha r =>
    have w : Qp (.tup (cutL ds l h)) M := w
    refine sl_tupA pins s sv H _ v vl vu _ _ sl Q I rv hsl pl pu ⟨a, vs, rfl, SqT.of ha, fun q => ?_, fun _ t ht => ?_⟩
    · have e : cutL ds l h = ds := by
        rw [← cut_eq ds.length l h ds rfl]
        rw [r.len] at q
        rw [q.1, q.2, List.drop_zero, Nat.sub_zero, List.take_length]
      rw [e] at w
      exact p.here m (.tup ha r) w
    · exact p.tup m (cutV_rep r l h) w ht
  | str z =>
    obtain ⟨h1, w⟩ := w
    refine sl_str pins s sv H _ v vl vu _ _ sl Q I rv hsl pl pu ⟨sOf z, rfl, ?_, ?_⟩
    · show (sOf z).cps.size ≤ sizeLine
      simp only [sOf, List.size_toArray]; exact sz h1
    · have e : cutS (sOf z) (l.map Int.ofNat) (h.map Int.ofNat) = sOf (cutL z l h) := by
        have e1 : (sOf z).cps.toList = z := by simp [sOf]
        have e2 : (sOf z).length = z.length := by show (sOf z).cps.size = _; simp [sOf]
        unfold cutS
        rw [e1, e2, cut_eq z.length l h z rfl]
        rfl
      rw [e]
      exact p.here m (.str _) w
  | kl hk r => exact sl_list pins s sv H _ v vl vu _ _ sl Q I rv hsl pl pu ⟨_, _, rfl, hk.sq, fun t ht => p.lst m (cutV_rep r l h) w ht⟩
  | @ref a n f =>
    simp only [] at w
    cases hM : M[n]? with
    | none => rw [hM] at w; exact w.elim
    | some o =>
      rw [hM] at w
      cases o with
      | lst ds =>
        obtain ⟨vs, q, r⟩ := m.sq hM f
        exact sl_list pins s sv H _ v vl vu _ _ sl Q I rv hsl pl pu ⟨a, vs, rfl, q, fun t ht => p.lst m (cutV_rep r l h) w ht⟩
      | _ => exact w.elim
  | _ => exact w.elim

/-! ### built-ins -/
def CallD (X : Cx) (f : Value) (w : List D → MS → VQ → Prop) : Prop :=
  ∀ (pins : List (Addr × Obj)) (s : Shared) (sv : St) (H : Hp) (xs : List V) (us : List Value) (φ : List Addr) (M : MS) (ds : List D) (Q : VK) (Qp : VQ),
    Inv X pins sv H s → Vals xs us → RM X.K H φ M → Reps X.K H φ xs ds → w ds M Qp → Post X.K φ H Q Qp → wpAny (model X.prog X.w) X.A (call f us) (EP X pins sv Q) X.xe s
theorem one_of {K : PySem.W.Frag} {φ : List Addr} {H : Hp} {xs : List V} {d : D} (r : Reps K H φ xs [d]) : ∃ x, xs = [x] ∧ Rep K H φ x d := by
  cases r with
  | cons a t => cases t; exact ⟨_, rfl, a⟩
theorem two_of {K : PySem.W.Frag} {φ : List Addr} {H : Hp} {xs : List V} {d e : D} (r : Reps K H φ xs [d, e]) : ∃ x y, xs = [x, y] ∧ Rep K H φ x d ∧ Rep K H φ y e := by
  cases r with
  | cons a t =>
    obtain ⟨y, rfl, ry⟩ := one_of t
    exact ⟨_, _, rfl, a, ry⟩
theorem cd_len : CallD X (.builtin "len") (bi2 .len) := by
  intro pins s sv H xs us φ M ds Q Qp I rv m r h p
  match ds, r, h with
  | [.str z], r, h =>
    obtain ⟨x, rfl, rx⟩ := one_of r
    cases rx
    obtain ⟨h1, h⟩ := h
    refine call_len_str pins s sv H _ us Q I rv ⟨sOf z, rfl, ?_, ?_⟩
    · show (sOf z).cps.size ≤ sizeLine
      simp only [sOf, List.size_toArray]; exact sz h1
    · have : ((sOf z).length : Int) = (z.length : Int) := by show (((sOf z).cps.size : Nat) : Int) = _; simp [sOf]
      rw [this]
      exact p.here m (.int _) h
  | [.tup es], r, h =>
    obtain ⟨x, rfl, rx⟩ := one_of r
    cases rx with
    | tup ha t =>
      refine call_len_seq pins s sv H _ us Q I rv ⟨_, _, rfl, .inr (SqT.of ha), ?_⟩
      rw [t.len]
      exact p.here m (.int _) h
  | [.kl es], r, h =>
    obtain ⟨x, rfl, rx⟩ := one_of r
    cases rx with
    | kl hk t =>
      refine call_len_seq pins s sv H _ us Q I rv ⟨_, _, rfl, .inl hk.sq, ?_⟩
      rw [t.len]
      exact p.here m (.int _) h
  | [.ref n], r, h =>
    obtain ⟨x, rfl, rx⟩ := one_of r
    cases rx with
    | @ref a n f =>
      simp only [bi2] at h
      cases hM : M[n]? with
      | none => rw [hM] at h; exact h.elim
      | some o =>
        rw [hM] at h
        cases o with
        | lst es =>
          obtain ⟨vs, q, t⟩ := m.sq hM f
          refine call_len_seq pins s sv H _ us Q I rv ⟨a, vs, rfl, .inl q, ?_⟩
          rw [t.len]
          exact p.here m (.int _) h
        | dict kvs =>
          obtain ⟨vs, q, t⟩ := m.at_ n _ a hM f
          refine call_lenD pins s sv H _ us Q I rv ⟨a, vs, rfl, q, ?_⟩
          rw [t.len]
          exact p.here m (.int _) h
        | _ => exact h.elim
  | [], _, h => exact h.elim
  | [.non], _, h => exact h.elim
  | [.bool _], _, h => exact h.elim
  | [.int _], _, h => exact h.elim
  | [.lv _], _, h => exact h.elim
  | [.exc _ _], _, h => exact h.elim
  | z :: _ :: _, _, h => exact (by cases z <;> exact h.elim)
theorem cd_tuple : CallD X (.type "tuple") (bi2 .tuple) := by
  intro pins s sv H xs us φ M ds Q Qp I rv m r h p
  match ds, r, h with
  | [.tup es], r, h =>
    obtain ⟨x, rfl, rx⟩ := one_of r
    cases rx with
    | tup ha t => exact call_tuple_of pins s sv H _ us Q I rv ⟨_, _, rfl, .inr ⟨SqT.of ha, p.here m (.tup ha t) h⟩⟩
  | [.ref n], r, h =>
    obtain ⟨x, rfl, rx⟩ := one_of r
    cases rx with
    | @ref a n f =>
      simp only [bi2] at h
      cases hM : M[n]? with
      | none => rw [hM] at h; exact h.elim
      | some o =>
        rw [hM] at h
        cases o with
        | lst es =>
          obtain ⟨vs, q, t⟩ := m.sq hM f
          exact call_tuple_of pins s sv H _ us Q I rv ⟨a, vs, rfl, .inl ⟨q, fun l hl => p.tup m t h hl⟩⟩
        | _ => exact h.elim
  | [], _, h => exact h.elim
  | [.non], _, h => exact h.elim
  | [.bool _], _, h => exact h.elim
  | [.int _], _, h => exact h.elim
  | [.str _], _, h => exact h.elim
  | [.lv _], _, h => exact h.elim
  | [.exc _ _], _, h => exact h.elim
  | [.kl _], _, h => exact h.elim
  | z :: _ :: _, _, h => exact (by cases z <;> exact h.elim)
theorem cd_list : CallD X (.type "list") (bi2 .list) := by
  intro pins s sv H xs us φ M ds Q Qp I rv m r h p
  match ds, r, h with
  | [.tup es], r, h =>
    obtain ⟨x, rfl, rx⟩ := one_of r
    cases rx with
    | tup ha t => exact call_list_of pins s sv H _ us Q I rv ⟨_, _, rfl, .inr (SqT.of ha), fun l hl => p.lst m t h hl⟩
  | [.ref n], r, h =>
    obtain ⟨x, rfl, rx⟩ := one_of r
    cases rx with
    | @ref a n f =>
      simp only [bi2] at h
      cases hM : M[n]? with
      | none => rw [hM] at h; exact h.elim
      | some o =>
        rw [hM] at h
        cases o with
        | lst es =>
          obtain ⟨vs, q, t⟩ := m.sq hM f
          exact call_list_of pins s sv H _ us Q I rv ⟨a, vs, rfl, .inl q, fun l hl => p.lst m t h hl⟩
        | _ => exact h.elim
  | [], _, h => exact h.elim
  | [.non], _, h => exact h.elim
  | [.bool _], _, h => exact h.elim
  | [.int _], _, h => exact h.elim
  | [.str _], _, h => exact h.elim
  | [.lv _], _, h => exact h.elim
  | [.exc _ _], _, h => exact h.elim
  | [.kl _], _, h => exact h.elim
  | z :: _ :: _, _, h => exact (by cases z <;> exact h.elim)
theorem cd_int : CallD X (.type "int") (bi2 .int) := by
  intro pins s sv H xs us φ M ds Q Qp I rv m r h p
  match ds, r, h with
  | [.int i], r, h =>
    obtain ⟨x, rfl, rx⟩ := one_of r
    cases rx
    exact call_int1 pins s sv H _ us Q I rv (.inl ⟨i, rfl, p.here m (.int _) h⟩)
  | [.bool b], r, h =>
    obtain ⟨x, rfl, rx⟩ := one_of r
    cases rx
    exact call_int1 pins s sv H _ us Q I rv (.inr ⟨b, rfl, p.here m (.int _) h⟩)
  | [], _, h => exact h.elim
  | [.non], _, h => exact h.elim
  | [.str _], _, h => exact h.elim
  | [.tup _], _, h => exact h.elim
  | [.lv _], _, h => exact h.elim
  | [.ref _], _, h => exact h.elim
  | [.exc _ _], _, h => exact h.elim
  | [.kl _], _, h => exact h.elim
  | z :: _ :: _, _, h => exact (by cases z <;> exact h.elim)
theorem cd_all (hc : X.calm = true) : CallD X (.builtin "all") (bi2 .all) := by
  intro pins s sv H xs us φ M ds Q Qp I rv m r h p
  match ds, r, h with
  | [.ref n], r, h =>
    obtain ⟨x, rfl, rx⟩ := one_of r
    cases rx with
    | @ref a n f =>
      simp only [bi2] at h
      cases hM : M[n]? with
      | none => rw [hM] at h; exact h.elim
      | some o =>
        rw [hM] at h
        cases o with
        | lst es =>
          obtain ⟨vs, q, t⟩ := m.sq hM f
          simp only [] at h
          cases hb : boolsOf es with
          | none => rw [hb] at h; exact h.elim
          | some bs =>
            rw [hb] at h
            rw [bools_rep t hb] at q
            exact cr_all hc pins s sv H _ us Q I rv ⟨a, bs, rfl, q, p.here m (.bl _) h⟩
        | _ => exact h.elim
  | [], _, h => exact h.elim
  | [.non], _, h => exact h.elim
  | [.bool _], _, h => exact h.elim
  | [.int _], _, h => exact h.elim
  | [.str _], _, h => exact h.elim
  | [.tup _], _, h => exact h.elim
  | [.lv _], _, h => exact h.elim
  | [.exc _ _], _, h => exact h.elim
  | [.kl _], _, h => exact h.elim
  | z :: _ :: _, _, h => exact (by cases z <;> exact h.elim)
theorem cd_any (hc : X.calm = true) : CallD X (.builtin "any") (bi2 .any) := by
  intro pins s sv H xs us φ M ds Q Qp I rv m r h p
  match ds, r, h with
  | [.ref n], r, h =>
    obtain ⟨x, rfl, rx⟩ := one_of r
    cases rx with
    | @ref a n f =>
      simp only [bi2] at h
      cases hM : M[n]? with
      | none => rw [hM] at h; exact h.elim
      | some o =>
        rw [hM] at h
        cases o with
        | lst es =>
          obtain ⟨vs, q, t⟩ := m.sq hM f
          simp only [] at h
          cases hb : boolsOf es with
          | none => rw [hb] at h; exact h.elim
          | some bs =>
            rw [hb] at h
            rw [bools_rep t hb] at q
            exact cr_any hc pins s sv H _ us Q I rv ⟨a, bs, rfl, q, p.here m (.bl _) h⟩
        | _ => exact h.elim
  | [], _, h => exact h.elim
  | [.non], _, h => exact h.elim
  | [.bool _], _, h => exact h.elim
  | [.int _], _, h => exact h.elim
  | [.str _], _, h => exact h.elim
  | [.tup _], _, h => exact h.elim
  | [.lv _], _, h => exact h.elim
  | [.exc _ _], _, h => exact h.elim
  | [.kl _], _, h => exact h.elim
  | z :: _ :: _, _, h => exact (by cases z <;> exact h.elim)
theorem ints_of2 {w : Int → Int → Prop} {f : D → D → Prop} (h : ∀ d e, f d e → ∃ i j, d = .int i ∧ e = .int j ∧ w i j) (d e : D) (q : f d e) : ∃ i j, d = .int i ∧ e = .int j ∧ w i j := h d e q
theorem cd_min (hc : X.calm = true) : CallD X (.builtin "min") (bi2 .min) := by
  intro pins s sv H xs us φ M ds Q Qp I rv m r h p
  have key : ∃ i j, ds = [.int i, .int j] ∧ Qp (.int (if j < i then j else i)) M := by
    match ds, h with
    | [.int i, .int j], h => exact ⟨i, j, rfl, h⟩
    | [], h => exact h.elim
    | [x], h => exact (by cases x <;> exact h.elim)
    | [x, y], h => exact (by cases x <;> first | exact h.elim | (cases y <;> first | exact h.elim | exact ⟨_, _, rfl, h⟩))
    | x :: y :: z :: t, h => exact (by cases x <;> first | exact h.elim | (cases y <;> exact h.elim))
  obtain ⟨i, j, rfl, h⟩ := key
  obtain ⟨x, y, rfl, rx, ry⟩ := two_of r
  cases rx
  cases ry
  exact call_min2 hc pins s sv H _ us Q I rv ⟨i, j, rfl, p.here m (.int _) h⟩
theorem cd_max (hc : X.calm = true) : CallD X (.builtin "max") (bi2 .max) := by
  intro pins s sv H xs us φ M ds Q Qp I rv m r h p
  have key : ∃ i j, ds = [.int i, .int j] ∧ Qp (.int (if j > i then j else i)) M := by
    match ds, h with
    | [.int i, .int j], h => exact ⟨i, j, rfl, h⟩
    | [], h => exact h.elim
    | [x], h => exact (by cases x <;> exact h.elim)
    | [x, y], h => exact (by cases x <;> first | exact h.elim | (cases y <;> first | exact h.elim | exact ⟨_, _, rfl, h⟩))
    | x :: y :: z :: t, h => exact (by cases x <;> first | exact h.elim | (cases y <;> exact h.elim))
  obtain ⟨i, j, rfl, h⟩ := key
  obtain ⟨x, y, rfl, rx, ry⟩ := two_of r
  cases rx
  cases ry
  exact call_max2 hc pins s sv H _ us Q I rv ⟨i, j, rfl, p.here m (.int _) h⟩
/-- isinstance(x, T), T built-in -/
def tyName : Ty → String
  | .int => "int" | .bool => "bool" | .str => "str" | .tuple => "tuple" | .list => "list"
theorem isi_rep {K : PySem.W.Frag} {φ : List Addr} {H : Hp} {M : MS} {x : V} {d : D} {t : Ty} {b : Bool} (m : RM K H φ M) (r : Rep K H φ x d) (h : isI t d M = some b) :
    ∃ T, TyX K H x (.type T) ∧ PySem.W.kitOne K (.type T) (.type (tyName t)) = some b := by
  cases r with
  | non => refine ⟨_, .base .non, ?_⟩; cases t <;> (cases h; first | rfl | (with_unfolding_all rfl) | kernel_rfl)
  | bl v => refine ⟨_, .base (.bl v), ?_⟩; cases t <;> (cases h; first | rfl | (with_unfolding_all rfl) | kernel_rfl)
  | int v => refine ⟨_, .base (.int v), ?_⟩; cases t <;> (cases h; first | rfl | (with_unfolding_all rfl) | kernel_rfl)
  | str v => refine ⟨_, .base (.str _), ?_⟩; cases t <;> (cases h; first | rfl | (with_unfolding_all rfl) | kernel_rfl)
  | tup ha _ => refine ⟨_, .base (.tup ha), ?_⟩; cases t <;> (cases h; first | rfl | (with_unfolding_all rfl) | kernel_rfl)
  | @ref a n f =>
    cases hM : M[n]? with
    | none => cases t <;> simp [isI, hM] at h
    | some o =>
      cases o with
      | lst ds =>
        obtain ⟨vs, q, _⟩ := m.at_ n _ a hM f
        refine ⟨_, .base (.lst q), ?_⟩
        cases t <;> (simp [isI, hM] at h; subst h; first | rfl | (with_unfolding_all rfl) | kernel_rfl)
      | _ => cases t <;> simp [isI, hM] at h
  | kl _ _ => cases t <;> simp [isI] at h
  | exc _ _ => cases t <;> simp [isI] at h
theorem cd_isi (t : Ty) {pins : List (Addr × Obj)} {s : Shared} {sv : St} {H : Hp} {x : V} {us : List Value} {φ : List Addr} {M : MS} {d : D} {b : Bool} {Q : VK} {Qp : VQ} (I : Inv X pins sv H s) (rv : Vals [x, .ty (tyName t)] us) (m : RM X.K H φ M)
    (r : Rep X.K H φ x d) (h : isI t d M = some b) (w : Qp (.bool b) M) (p : Post X.K φ H Q Qp) : wpAny (model X.prog X.w) X.A (call (.builtin "isinstance") us) (EP X pins sv Q) X.xe s := by
  obtain ⟨T, h1, h2⟩ := isi_rep m r h
  exact call_isi pins s sv H _ us Q I rv ⟨x, .ty (tyName t), .type T, .type (tyName t), b, rfl, .ty _, h1, h2, p.here m (.bl _) w⟩

/-! ### methods -/
def MtD (X : Cx) (id : String) (w : D → List D → MS → VQ → Prop) : Prop :=
  ∀ (pins : List (Addr × Obj)) (s : Shared) (sv : St) (H : Hp) (x : V) (xs : List V) (v : Value) (us : List Value) (φ : List Addr) (M : MS) (d : D) (ds : List D) (Q : VK) (Qp : VQ),
    Inv X pins sv H s → RelV x v → Vals xs us → RM X.K H φ M → Rep X.K H φ x d → Reps X.K H φ xs ds → w d ds M Qp → Post X.K φ H Q Qp → wpAny (model X.prog X.w) X.A (call (.builtin id) (v :: us)) (EP X pins sv Q) X.xe s
/-- a method of a list: where the receiver is one of the store's own -/
theorem mt_lists {id : String} {w : D → List D → MS → VQ → Prop}
    (hw : ∀ d es M Q, w d es M Q → ∃ n ds, d = .ref n ∧ M[n]? = some (.lst ds))
    (h : ∀ (pins : List (Addr × Obj)) (s : Shared) (sv : St) (H : Hp) (a : Addr) (xs : List V) (us : List Value) (φ : List Addr) (M : MS) (n : Nat) (ds es : List D) (vs : List V) (Q : VK) (Qp : VQ), Inv X pins sv H s → Vals xs us → RM X.K H φ M →
      M[n]? = some (.lst ds) → φ[n]? = some a → H a = some (.lst vs) → Reps X.K H φ vs ds → Reps X.K H φ xs es → w (.ref n) es M Qp → Post X.K φ H Q Qp → wpAny (model X.prog X.w) X.A (call (.builtin id) (.ref a :: us)) (EP X pins sv Q) X.xe s) : MtD X id w := by
  intro pins s sv H x xs v us φ M d es Q Qp I rv rs m rx r hh p
  obtain ⟨n, ds, rfl, hM⟩ := hw d es M Qp hh
  cases rx with
  | @ref a n f =>
    obtain ⟨vs, q, t⟩ := m.at_ n _ a hM f
    obtain rfl : v = Value.ref a := rv
    exact h pins s sv H a xs us φ M n ds es vs Q Qp I rs m hM f q t r hh p
theorem lst_at {n : Nat} {M : MS} {B : List D → Prop} (h : match M[n]? with | some (.lst ds) => B ds | _ => False) : ∃ ds, M[n]? = some (.lst ds) ∧ B ds := by
  cases q : M[n]? with
  | none => rw [q] at h; exact h.elim
  | some o =>
    rw [q] at h
    cases o with
    | lst ds => exact ⟨ds, rfl, h⟩
    | _ => exact h.elim
theorem app_inv {d : D} {es : List D} {M : MS} {Q : VQ} (h : meth2 .append d es M Q) : ∃ n ds y, d = .ref n ∧ es = [y] ∧ M[n]? = some (.lst ds) ∧ ds.length < lim ∧ Q .non (M.set n (.lst (ds ++ [y]))) := by
  match d, es, h with
  | .ref n, [y], h =>
    obtain ⟨ds, h1, h2, h3⟩ := lst_at (B := fun ds => ds.length < lim ∧ Q .non (M.set n (.lst (ds ++ [y])))) h
    exact ⟨n, ds, y, rfl, rfl, h1, h2, h3⟩
  | .ref n, [], h => exact h.elim
  | .ref n, _ :: _ :: _, h => exact h.elim
  | .non, _, h => exact h.elim
  | .bool _, _, h => exact h.elim
  | .int _, _, h => exact h.elim
  | .str _, _, h => exact h.elim
  | .tup _, _, h => exact h.elim
  | .lv _, _, h => exact h.elim
  | .exc _ _, _, h => exact h.elim
  | .kl _, _, h => exact h.elim
theorem md_append : MtD X "list.append" (meth2 .append) := by
  refine mt_lists (fun d es M Q h => ?_) fun pins s sv H a xs us φ M n ds es vs Q Qp I rs m hM f q t r h p => ?_
  · obtain ⟨n, ds, y, e, _, hM, _⟩ := app_inv h
    exact ⟨n, ds, e, hM⟩
  · obtain ⟨n', ds', y, e, rfl, hM', hl, h⟩ := app_inv h
    cases e
    rw [hM] at hM'; cases hM'
    obtain ⟨z, rfl, rz⟩ := one_of r
    exact mt_append pins s sv H (.ref a) _ (.ref a) us Q I rfl rs ⟨a, vs, z, rfl, rfl, q, by rw [t.len]; exact szl hl, p.setL m hM f q (t.app (.cons rz .nil)) .non h⟩
theorem ext_inv {d : D} {es : List D} {M : MS} {Q : VQ} (h : meth2 .extend d es M Q) : ∃ n k ds fs, d = .ref n ∧ es = [.ref k] ∧ M[n]? = some (.lst ds) ∧ M[k]? = some (.lst fs) ∧ ds.length + fs.length ≤ lim ∧ Q .non (M.set n (.lst (ds ++ fs))) := by
  have key : ∃ n k, d = .ref n ∧ es = [.ref k] := by
    cases d <;> first | exact h.elim | skip
    cases es with
    | nil => exact h.elim
    | cons y t =>
      cases t with
      | nil => cases y <;> first | exact h.elim | exact ⟨_, _, rfl, rfl⟩
      | cons _ _ => cases y <;> exact h.elim
  obtain ⟨n, k, rfl, rfl⟩ := key
  simp only [meth2] at h
  split at h
  · rename_i ds fs h1 h2
    exact ⟨n, k, ds, fs, rfl, rfl, h1, h2, h.1, h.2⟩
  · exact h.elim
theorem md_extend : MtD X "list.extend" (meth2 .extend) := by
  refine mt_lists (fun d es M Q h => ?_) fun pins s sv H a xs us φ M n ds es vs Q Qp I rs m hM f q t r h p => ?_
  · obtain ⟨n, k, ds, _, e, _, hM, _⟩ := ext_inv h
    exact ⟨n, ds, e, hM⟩
  · obtain ⟨n', k, ds', fs, e, rfl, hM', hK, hl, h⟩ := ext_inv h
    cases e
    rw [hM] at hM'; cases hM'
    obtain ⟨z, rfl, rz⟩ := one_of r
    cases rz with
    | @ref b k g =>
      obtain ⟨ws, q2, t2⟩ := m.at_ k _ b hK g
      exact mt_extend pins s sv H (.ref a) _ (.ref a) us Q I rfl rs ⟨a, b, vs, ws, rfl, rfl, q, q2, by rw [t.len, t2.len]; exact sz hl, p.setL m hM f q (t.app t2) .non h⟩
theorem pop_inv {d : D} {es : List D} {M : MS} {Q : VQ} (h : meth2 .pop d es M Q) :
    ∃ n ds, d = .ref n ∧ M[n]? = some (.lst ds) ∧ ((es = [] ∧ ∃ y, ds[ds.length - 1]? = some y ∧ Q y (M.set n (.lst ds.dropLast))) ∨
      ∃ i y, es = [.int i] ∧ 0 ≤ i ∧ ds[i.toNat]? = some y ∧ ds.length ≤ lim ∧ Q y (M.set n (.lst (ds.eraseIdx i.toNat)))) := by
  have key : ∃ n, d = .ref n ∧ (es = [] ∨ ∃ i, es = [.int i]) := by
    cases d <;> first | exact h.elim | skip
    cases es with
    | nil => exact ⟨_, rfl, .inl rfl⟩
    | cons y t =>
      cases t with
      | nil => cases y <;> first | exact h.elim | exact ⟨_, rfl, .inr ⟨_, rfl⟩⟩
      | cons _ _ => cases y <;> exact h.elim
  obtain ⟨n, rfl, rfl | ⟨i, rfl⟩⟩ := key
  · obtain ⟨ds, h1, h2⟩ := lst_at (B := fun ds => match ds[ds.length - 1]? with | some d => Q d (M.set n (.lst ds.dropLast)) | none => False) h
    cases hy : ds[ds.length - 1]? with
    | none => rw [hy] at h2; exact h2.elim
    | some y => rw [hy] at h2; exact ⟨n, ds, rfl, h1, .inl ⟨rfl, y, hy, h2⟩⟩
  · obtain ⟨ds, h1, h2⟩ := lst_at (B := fun ds => match (if 0 ≤ i then ds[i.toNat]? else none) with | some d => ds.length ≤ lim ∧ Q d (M.set n (.lst (ds.eraseIdx i.toNat))) | none => False) h
    by_cases hi : 0 ≤ i
    · rw [if_pos hi] at h2
      cases hy : ds[i.toNat]? with
      | none => rw [hy] at h2; exact h2.elim
      | some y => rw [hy] at h2; exact ⟨n, ds, rfl, h1, .inr ⟨i, y, rfl, hi, hy, h2.1, h2.2⟩⟩
    · rw [if_neg hi] at h2; exact h2.elim
theorem md_pop : MtD X "list.pop" (meth2 .pop) := by
  refine mt_lists (fun d es M Q h => ?_) fun pins s sv H a xs us φ M n ds es vs Q Qp I rs m hM f q t r h p => ?_
  · obtain ⟨n, ds, e, hM, _⟩ := pop_inv h
    exact ⟨n, ds, e, hM⟩
  · obtain ⟨n', ds', e, hM', h⟩ := pop_inv h
    cases e
    rw [hM] at hM'; cases hM'
    rcases h with ⟨rfl, y, hy, h⟩ | ⟨i, y, rfl, hi, hy, hl, h⟩
    · cases r
      obtain ⟨z, hz, rz⟩ := t.get hy
      exact mt_pop pins s sv H (.ref a) _ (.ref a) us Q I rfl rs ⟨a, vs, z, rfl, rfl, q, by rw [t.len]; exact hz, p.setL m hM f q t.dropLast rz h⟩
    · obtain ⟨x, rfl, rx⟩ := one_of r
      cases rx
      obtain ⟨z, hz, rz⟩ := t.get hy
      have hlt : i.toNat < vs.length := (List.getElem?_eq_some_iff.mp hz).1
      have hll : vs.length ≤ lim := by rw [t.len]; exact hl
      have hlim : lim = 1000000 := rfl
      exact mt_popAt pins s sv H (.ref a) _ (.ref a) us Q I rfl rs ⟨a, vs, i, i.toNat, z, rfl, rfl, q, by omega, by omega, seqIndex_of hi (by omega), hz, p.setL m hM f q (t.erase _) rz h⟩
theorem ins_inv {d : D} {es : List D} {M : MS} {Q : VQ} (h : meth2 .insert d es M Q) :
    ∃ n ds i y, d = .ref n ∧ es = [.int i, y] ∧ M[n]? = some (.lst ds) ∧ ds.length < lim ∧ 0 ≤ i ∧ i < 2 ^ 60 ∧ Q .non (M.set n (.lst (ds.take i.toNat ++ [y] ++ ds.drop i.toNat))) := by
  have key : ∃ n i y, d = .ref n ∧ es = [.int i, y] := by
    cases d <;> first | exact h.elim | skip
    match es, h with
    | [.int i, y], _ => exact ⟨_, i, y, rfl, rfl⟩
    | [], h => exact h.elim
    | [z], h => exact (by cases z <;> exact h.elim)
    | z :: _ :: _ :: _, h => exact (by cases z <;> exact h.elim)
    | [.non, _], h => exact h.elim
    | [.bool _, _], h => exact h.elim
    | [.str _, _], h => exact h.elim
    | [.tup _, _], h => exact h.elim
    | [.lv _, _], h => exact h.elim
    | [.ref _, _], h => exact h.elim
    | [.exc _ _, _], h => exact h.elim
    | [.kl _, _], h => exact h.elim
  obtain ⟨n, i, y, rfl, rfl⟩ := key
  obtain ⟨ds, h1, h2⟩ := lst_at (B := fun ds => ds.length < lim ∧ 0 ≤ i ∧ i < 2 ^ 60 ∧ Q .non (M.set n (.lst (ds.take i.toNat ++ [y] ++ ds.drop i.toNat)))) h
  exact ⟨n, ds, i, y, rfl, rfl, h1, h2⟩
theorem md_insert : MtD X "list.insert" (meth2 .insert) := by
  refine mt_lists (fun d es M Q h => ?_) fun pins s sv H a xs us φ M n ds es vs Q Qp I rs m hM f q t r h p => ?_
  · obtain ⟨n, ds, i, y, e, _, hM, _⟩ := ins_inv h
    exact ⟨n, ds, e, hM⟩
  · obtain ⟨n', ds', i, y, e, rfl, hM', hl, h0, h1, h⟩ := ins_inv h
    cases e
    rw [hM] at hM'; cases hM'
    obtain ⟨x, z, rfl, rx, rz⟩ := two_of r
    cases rx
    exact mt_insert pins s sv H (.ref a) _ (.ref a) us Q I rfl rs ⟨a, vs, i, z, rfl, rfl, q, by rw [t.len]; exact szl hl, h0, by omega, p.setL m hM f q (((t.take _).app (.cons rz .nil)).app (t.drop _)) .non h⟩
theorem clr_inv {d : D} {es : List D} {M : MS} {Q : VQ} (h : meth2 .clear d es M Q) : ∃ n ds, d = .ref n ∧ es = [] ∧ M[n]? = some (.lst ds) ∧ Q .non (M.set n (.lst [])) := by
  have key : ∃ n, d = .ref n ∧ es = [] := by
    cases d <;> first | exact h.elim | skip
    cases es with
    | nil => exact ⟨_, rfl, rfl⟩
    | cons _ _ => exact h.elim
  obtain ⟨n, rfl, rfl⟩ := key
  obtain ⟨ds, h1, h2⟩ := lst_at (B := fun ds => Q .non (M.set n (.lst []))) h
  exact ⟨n, ds, rfl, rfl, h1, h2⟩
theorem md_clear : MtD X "list.clear" (meth2 .clear) := by
  refine mt_lists (fun d es M Q h => ?_) fun pins s sv H a xs us φ M n ds es vs Q Qp I rs m hM f q t r h p => ?_
  · obtain ⟨n, ds, e, _, hM, _⟩ := clr_inv h
    exact ⟨n, ds, e, hM⟩
  · obtain ⟨n', ds', e, rfl, hM', h⟩ := clr_inv h
    cases e
    rw [hM] at hM'; cases hM'
    cases r
    exact mt_clear pins s sv H (.ref a) _ (.ref a) us Q I rfl rs ⟨a, vs, rfl, rfl, q, p.setL m hM f q .nil .non h⟩
end
end Sl
/-! S3b: sorted of a list and of a dict of any length; a dict's pop, setdefault; stores by place. -/
namespace Sl
open PySem PySem.Spec PyProof.Rows L2
section
variable {X : Cx}
/-- the keys that a dict's walk has gathered are its ints -/
theorem gathered {xs : List Value} {vs : List (Key × Value)} {ks : List Int} (hl : xs.length = ks.length) (hk : vs.map (·.1) = ks.map Sum.inl)
    (h : ∀ (j : Nat) (v : Value), xs[j]? = some v → ∃ (k : Key) (x : Value), vs[j]? = some (k, x) ∧ keyIs k v = true) : IntsAre xs ks := by
  refine ints_each hl fun j v e => ?_
  obtain ⟨k, x, e1, e2⟩ := h j v e
  have e3 : (ks.map Sum.inl)[j]? = some k := by
    rw [← hk, List.getElem?_map, e1]
    rfl
  rw [List.getElem?_map] at e3
  cases e4 : ks[j]? with
  | none => rw [e4] at e3; cases e3
  | some y =>
    rw [e4] at e3
    cases e3
    obtain ⟨t, ev⟩ := Value.isInt_shape (k := y) (v := v) e2
    exact ⟨y, t, rfl, ev⟩
theorem sortedDict (hcalm : X.calm = true) : CallR X (.builtin "sorted") (fun xs H Q => ∃ (a : Addr) (kvs : List (Key × V)) (ks : List Int), xs = [.ref a] ∧ Rd H a (.dK kvs) ∧ kvs.map (·.1) = ks.map Sum.inl ∧
    ∀ (ys : List Int) (p : Addr), ys.Perm ks → ys.Pairwise (· ≤ ·) → H p = none → Q (.ref p) (upd H p (.lst (ys.map V.int)))) := by
  intro pn s0 sv H xs us Q I r want
  obtain ⟨a, kvs, ks, ex, hd, hks, want⟩ := want
  subst ex
  obtain rfl : us = [Value.ref a] := Vals.ref1 r
  obtain ⟨z, lo, vs, rel, dd⟩ := dk_rd I.hok hd
  obtain ⟨ep, hat⟩ := dd.dictAt
  have hkeys : vs.map (·.1) = ks.map Sum.inl := rel.keys.symm.trans hks
  have hlv : vs.length = ks.length := by simpa using congrArg List.length hkeys
  have hsz : vs.length ≤ sizeLine := by rw [← rel.length]; exact z
  refine Calls.call_function_entry PyProof.Rows.kind_sorted PyProof.Rows.plain_sorted PyProof.Rows.entry_sorted (PyProof.Rows.args_sorted1 _) ?_
  unfold Builtin.«sorted»
  refine wpAny_bind (m := checkCount "sorted" 1 1 _) (wpAny_pure ?_)
  have src := PySem.W.kdl_dict (knd := mixKind X.prog X.w) (kvs := vs) (ep := ep) (d := a) lo
  refine wpAny_bind (PySem.W.kdu_collect (A := X.A.in1) src (I.ok.hd hcalm) hat hsz fun h1 tk acc hk hacc => ?_)
  have hal : acc.toList.length = ks.length := by rw [Array.length_toList, hacc.1, hlv]
  have hS : IntsAre acc.toList ks := gathered hal hkeys fun j v e => hacc.2 j v (by rw [← Array.getElem?_toList]; exact e)
  have hal2 : acc.toList.length ≤ sizeLine := by rw [hal, ← hlv]; exact hsz
  have J : Inv X pn sv H { s0 with heap := h1, toks := tk } := I.kept hk
  refine wpAny_bind (wpAny_newList ?_ hal2)
  have hL : (h1.push (seqObj "list" acc.toList.toArray 0)).get? h1.objs.size = some (seqObj "list" acc.toList.toArray 0) := Heap.get?_push_size _ rfl
  show wpAny _ _ _ _ _ { s0 with heap := h1.push (seqObj "list" acc.toList.toArray 0), toks := tk }
  refine wpAny_bind (wpAny_holding (wpAny_call_entry PyProof.Rows.slot_list_sort ⟨_, hL, rfl⟩ PyProof.Rows.entry_list_sort (SrtO.list_sort_ord SrtO.swo_int hL hal2 (fun h2 => SrtO.ints_sortable hS h2) fun out o1 o2 => ⟨_, rfl, ?_⟩)
    (PyProof.Rows.args_list_sort _)))
  obtain ⟨k1, k2, k3⟩ := SrtO.ints_out hS o1 o2
  obtain ⟨e2, he2⟩ := PyProof.Rows.sortedHeap_at (vs := acc.toList) (out := out.toArray) hL
  have hlen : ((out.map SrtO.iv).map V.int).length ≤ sizeLine := by rw [List.length_map, k2.length_eq, ← hal]; exact hal2
  refine wpAny_pure ⟨_, rfl, .ref h1.objs.size, upd H h1.objs.size (.lst ((out.map SrtO.iv).map V.int)), J.laid (t' := tk) (fun b u e => ?_) (Nat.le_refl _) ⟨hlen, out, e2, vals_of_ints k1, he2⟩, rfl, want _ _ k2 k3 (J.hok.fresh (Nat.le_refl _))⟩
  have hb : b < h1.objs.size := Heap.lt_size e
  rw [PyProof.Rows.sortedHeap_old (Nat.ne_of_lt hb) (by rw [size_push']; exact Nat.lt_of_lt_of_le hb (Nat.le_succ _))]
  exact Heap.get?_push_of_some _ e
theorem rep_ints {K : PySem.W.Frag} {φ : List Addr} {H : Hp} (ns : List Int) : Reps K H φ (ns.map V.int) (ns.map D.int) := by
  induction ns with
  | nil => exact .nil
  | cons n ns ih => exact .cons (.int n) ih
theorem cd_sorted (hc : X.calm = true) : CallD X (.builtin "sorted") (bi2 .sorted) := by
  intro pins s sv H xs us φ M ds Q Qp I rv m r h p
  have key : ∃ n, ds = [.ref n] := by
    match ds, h with
    | [.ref n], _ => exact ⟨n, rfl⟩
    | [], h => exact h.elim
    | [.non], h => exact h.elim
    | [.bool _], h => exact h.elim
    | [.int _], h => exact h.elim
    | [.str _], h => exact h.elim
    | [.tup _], h => exact h.elim
    | [.lv _], h => exact h.elim
    | [.exc _ _], h => exact h.elim
    | [.kl _], h => exact h.elim
    | z :: _ :: _, h => exact (by cases z <;> exact h.elim)
  obtain ⟨n, rfl⟩ := key
  obtain ⟨x, rfl, rx⟩ := one_of r
  cases rx with
  | @ref a n f =>
    simp only [bi2] at h
    cases hM : M[n]? with
    | none => rw [hM] at h; exact h.elim
    | some o =>
      rw [hM] at h
      cases o with
      | lst es =>
        obtain ⟨vs, q, t⟩ := m.sq hM f
        simp only [] at h
        cases hn : intsOf es with
        | none => rw [hn] at h; exact h.elim
        | some ns =>
          rw [hn] at h
          rw [ints_rep t hn] at q
          exact cr_sortedI pins s sv H _ us Q I rv ⟨a, ns, rfl, q, fun ns' l h1 h2 hl => p.lst m (rep_ints ns') (h ns' h1 h2) hl⟩
      | dict kvs =>
        obtain ⟨vs, q, t⟩ := m.at_ n _ a hM f
        exact sortedDict hc pins s sv H _ us Q I rv ⟨a, vs, kvs.map (·.1), rfl, .inl q, t.keys, fun ns' l h1 h2 hl => p.lst m (rep_ints ns') (h ns' h1 h2) hl⟩
      | _ => exact h.elim

/-! ### a dict's own -/
theorem md_dpop : MtD X "dict.pop" (meth2 .dpop) := by
  intro pins s sv H x xs v us φ M d es Q Qp I rv rs m rx r h p
  have key : ∃ n i, d = .ref n ∧ es = [.int i] := by
    cases d <;> first | exact h.elim | skip
    match es, h with
    | [.int i], _ => exact ⟨_, i, rfl, rfl⟩
    | [], h => exact h.elim
    | [.non], h => exact h.elim
    | [.bool _], h => exact h.elim
    | [.ref _], h => exact h.elim
    | [.str _], h => exact h.elim
    | [.tup _], h => exact h.elim
    | [.lv _], h => exact h.elim
    | [.exc _ _], h => exact h.elim
    | [.kl _], h => exact h.elim
    | z :: _ :: _, h => exact (by cases z <;> exact h.elim)
  obtain ⟨n, i, rfl, rfl⟩ := key
  obtain ⟨y, rfl, ry⟩ := one_of r
  cases ry
  cases rx with
  | @ref a n f =>
    simp only [meth2] at h
    cases hM : M[n]? with
    | none => rw [hM] at h; exact h.elim
    | some o =>
      rw [hM] at h
      cases o with
      | dict kvs =>
        obtain ⟨vs, q, t⟩ := m.at_ n _ a hM f
        simp only [] at h
        have g := t.get i
        cases hd : dget kvs i with
        | none => rw [hd] at h; exact h.elim
        | some d' =>
          rw [hd] at h g
          obtain ⟨w, hw, rw'⟩ := g
          obtain ⟨u, rfl, ru⟩ := Vals.one rs
          obtain rfl : v = Value.ref a := rv
          exact d_pop (k := Sum.inl i) (more := []) I q ru hw (.inl rfl) fun w' s' I' r' => ⟨w, _, I', r', p.setD m hM f q (t.drop i) rw' h⟩
      | _ => exact h.elim

/-! ### stores by place -/
/-- o[i] = v where o is a list or a dict of the store -/
theorem setD (hu : X.A.units + 1 < cLine) {pins : List (Addr × Obj)} {s : Shared} {sv : St} {H : Hp} {o i x : V} {ov iv u : Value} {φ : List Addr} {M : MS} {n : Nat} {k : Int} {d : D} {Q : Hp → Prop} {N : MS → Prop}
    (I : Inv X pins sv H s) (ro : RelV o ov) (ri : RelV i iv) (rv : RelV x u) (m : RM X.K H φ M) (po : Rep X.K H φ o (.ref n)) (pi : Rep X.K H φ i (.int k)) (px : Rep X.K H φ x d)
    (w : match M[n]? with
      | some (.lst ds) => (match Sl.ixN ds.length k with
        | some j => N (M.set n (.lst (ds.set j d)))
        | none => False)
      | some (.dict kvs) => kvs.length < lim ∧ N (M.set n (.dict (dput kvs k d)))
      | _ => False)
    (p : ∀ φ' M' H', Fr φ H φ' H' → RM X.K H' φ' M' → N M' → Q H') :
    wpAny (model X.prog X.w) X.A (setItem ov iv u) (fun _ s' => ∃ H', Inv X pins sv H' s' ∧ Q H') X.xe s := by
  cases po with
  | @ref a n f =>
    cases pi
    cases hM : M[n]? with
    | none => rw [hM] at w; exact w.elim
    | some ob =>
      rw [hM] at w
      cases ob with
      | lst ds =>
        obtain ⟨vs, q, t⟩ := m.at_ n _ a hM f
        simp only [] at w
        cases hj : Sl.ixN ds.length k with
        | none => rw [hj] at w; exact w.elim
        | some j =>
          rw [hj] at w
          have fr := Fr.upd (u' := .lst (vs.set j x)) (mem_of_get f) q (fun _ z => by cases z) (fun _ _ z => by cases z)
          refine set_list pins s sv H _ _ x ov iv u Q I ro ri rv ⟨a, vs, k, j, rfl, rfl, q, ?_, p φ _ _ fr (m.upd (o' := .lst (ds.set j d)) hM f q (fun _ z => by cases z) (fun _ _ z => by cases z) ⟨_, upd_same, (t.set px j).fr fr⟩) w⟩
          rw [t.len]; exact hj
      | dict kvs =>
        obtain ⟨vs, q, t⟩ := m.at_ n _ a hM f
        obtain ⟨hl, w⟩ := w
        have fr := Fr.upd (u' := .dK (putK vs (Sum.inl k) x)) (mem_of_get f) q (fun _ z => by cases z) (fun _ _ z => by cases z)
        obtain rfl : ov = Value.ref a := ro
        exact d_setItem hu I (DPut.k (k := Sum.inl k) q (by rw [t.len]; exact szl hl)) ri rv fun s' I' => ⟨_, I', p φ _ _ fr (m.upd (o' := .dict (dput kvs k d)) hM f q (fun _ z => by cases z) (fun _ _ z => by cases z) ⟨_, upd_same, (t.put px).fr fr⟩) w⟩
      | _ => exact w.elim
end
end Sl
/-! S4: expressions. -/
namespace Sl
open PySem PySem.Spec PyProof.Rows L2

/-! ### the layer's rules over packed data -/
def rPk2 (K : PySem.W.Frag) (w : D → D → MS → VQ → Prop) : R2 := fun x y H Q => ∃ φ M d e Qp, RM K H φ M ∧ Rep K H φ x d ∧ Rep K H φ y e ∧ w d e M Qp ∧ Post K φ H Q Qp
def rPkA (K : PySem.W.Frag) (w : List D → MS → VQ → Prop) : List V → Hp → VK → Prop := fun xs H Q => ∃ φ M ds Qp, RM K H φ M ∧ Reps K H φ xs ds ∧ w ds M Qp ∧ Post K φ H Q Qp
def rPkM (K : PySem.W.Frag) (w : D → List D → MS → VQ → Prop) : V → List V → Hp → VK → Prop := fun x xs H Q => ∃ φ M d ds Qp, RM K H φ M ∧ Rep K H φ x d ∧ Reps K H φ xs ds ∧ w d ds M Qp ∧ Post K φ H Q Qp
def rPkS (K : PySem.W.Frag) : V → Option Int → Option Int → Hp → VK → Prop := fun x lo hi H Q => ∃ φ M d a b l h Qp, RM K H φ M ∧ Rep K H φ x d ∧ partOf a = some l ∧ partOf b = some h ∧ lo = l.map Int.ofNat ∧ hi = h.map Int.ofNat ∧ slice2 d a b M Qp ∧ Post K φ H Q Qp
section
variable {X : Cx}
theorem pk_op {f : Value → Value → Sem Value} {w : D → D → MS → VQ → Prop} (h : OpD X f w) : OpR X f (rPk2 X.K w) :=
  fun pins s sv H x y v u Q I rv ru ⟨φ, M, d, e, Qp, m, rx, ry, hw, p⟩ => h pins s sv H x y v u φ M d e Q Qp I rv ru m rx ry hw p
theorem pk_ix {w : D → D → MS → VQ → Prop} (h : IxD X w) : IxR X (rPk2 X.K w) :=
  fun value slice pins s sv H x y v u Q I rv ru ⟨φ, M, d, e, Qp, m, rx, ry, hw, p⟩ hs => h value slice pins s sv H x y v u φ M d e Q Qp I rv ru m rx ry hw p hs
theorem pk_call {f : Value} {w : List D → MS → VQ → Prop} (h : CallD X f w) : CallR X f (rPkA X.K w) :=
  fun pins s sv H xs us Q I rv ⟨φ, M, ds, Qp, m, r, hw, p⟩ => h pins s sv H xs us φ M ds Q Qp I rv m r hw p
theorem pk_mt {id : String} {w : D → List D → MS → VQ → Prop} (h : MtD X id w) : MtR X id (rPkM X.K w) :=
  fun pins s sv H x xs v us Q I rv rs ⟨φ, M, d, ds, Qp, m, rx, r, hw, p⟩ => h pins s sv H x xs v us φ M d ds Q Qp I rv rs m rx r hw p
theorem pk_sl : SlR X (rPkS X.K) := by
  intro pins s sv H x v vl vu lo hi sl Q I rv hs pl pu q
  obtain ⟨φ, M, d, a, b, l, h, Qp, m, rx, h1, h2, rfl, rfl, hw, p⟩ := q
  exact sld I rv hs pl pu m rx h1 h2 hw p
end

/-! ### wishes over the layer's -/
def XPost (K : PySem.W.Frag) (cv : Nat → Value) (φ : List Addr) (H : Hp) (sv : St) (W : WX) (Ep : XQ) : Prop :=
  ∀ (φ' : List Addr) (c : Exn) (M' : MS) (H' : Hp), Fr φ H φ' H' → RM K H' φ' M' → Ep c M' → W (cv c) none sv H'
theorem XPost.fr {K : PySem.W.Frag} {cv : Nat → Value} {φ φ1 : List Addr} {H H1 : Hp} {sv : St} {W : WX} {Ep : XQ} (f : Fr φ H φ1 H1) (p : XPost K cv φ H sv W Ep) : XPost K cv φ1 H1 sv W Ep :=
  fun φ' c M' H' f' => p φ' c M' H' (f.trans f')
abbrev PW1 := Sl.Loc → MS → VQ → XQ → Prop
def tOf (K : PySem.W.Frag) (cv : Nat → Value) (W : WX) (t : PW1) : TE := fun sv H Q => ∃ φ σ M Qp Ep, RS K H φ sv σ ∧ RM K H φ M ∧ t σ M Qp Ep ∧ Post K φ H Q Qp ∧ XPost K cv φ H sv W Ep
/-- a test's -/
def ttOf (K : PySem.W.Frag) (cv : Nat → Value) (W : WX) (t : PW1) : TT := fun sv H Q => ∃ φ σ M Qp Ep, RS K H φ sv σ ∧ RM K H φ M ∧ t σ M Qp Ep ∧
  (∀ φ' d M' H', Fr φ H φ' H' → RM K H' φ' M' → Qp d M' → ∃ b, d = .bool b ∧ Q b H') ∧ XPost K cv φ H sv W Ep
/-- arguments' -/
def taOf (K : PySem.W.Frag) (cv : Nat → Value) (W : WX) (t : Sl.Loc → MS → AQ → XQ → Prop) : TA := fun sv H Q => ∃ φ σ M Qp Ep, RS K H φ sv σ ∧ RM K H φ M ∧ t σ M Qp Ep ∧
  (∀ φ' vs ds M' H', Fr φ H φ' H' → RM K H' φ' M' → Reps K H' φ' vs ds → Qp ds M' → Q vs H') ∧ XPost K cv φ H sv W Ep

section
variable {X : Cx} {cv : Nat → Value} {W : WX} {O : Oracle} {a b c e : Expr} {la lb lc : LE} {pos : Pos}
theorem PE.imp {e : Expr} {t t' : TE} (h : PE X e t) (hi : ∀ sv H Q, t' sv H Q → t sv H Q) : PE X e t' := ⟨fun pins s sv H Q I q => h.run pins s sv H Q I (hi sv H Q q)⟩
theorem PT.imp {e : Expr} {t t' : TT} (h : PT X e t) (hi : ∀ sv H Q, t' sv H Q → t sv H Q) : PT X e t' := ⟨fun pins s sv H Q I q => h.run pins s sv H Q I (hi sv H Q q)⟩
theorem PWt.imp {e : Expr} {t t' : TT} (h : PW X e t) (hi : ∀ sv H Q, t' sv H Q → t sv H Q) : PW X e t' := ⟨fun wh pins s sv H Q I q => h.run wh pins s sv H Q I (hi sv H Q q)⟩
theorem PAt.imp {e : List Expr} {t t' : TA} (h : PA X e t) (hi : ∀ sv H Q, t' sv H Q → t sv H Q) : PA X e t' := ⟨fun p pins s sv H Q I q => h.run p pins s sv H Q I (hi sv H Q q)⟩

/-- the data that an expression gives, then what follows -/
theorem tOf.step {K : PySem.W.Frag} {t : PW1} {φ : List Addr} {σ : Sl.Loc} {M : MS} {sv : St} {H : Hp} {Q : VK} {Qp : VQ} {Ep : XQ} (rs : RS K H φ sv σ) (m : RM K H φ M) (h : t σ M Qp Ep) (px : XPost K cv φ H sv W Ep)
    (k : ∀ φ' v d M' H', Fr φ H φ' H' → RS K H' φ' sv σ → RM K H' φ' M' → Rep K H' φ' v d → XPost K cv φ' H' sv W Ep → Qp d M' → Q v H') : tOf K cv W t sv H Q :=
  ⟨φ, σ, M, Qp, Ep, rs, m, h, ⟨fun φ' v d M' H' f m' r q => k φ' v d M' H' f (rs.fr f) m' r (px.fr f) q⟩, px⟩
theorem ttOf.step {K : PySem.W.Frag} {t : PW1} {φ : List Addr} {σ : Sl.Loc} {M : MS} {sv : St} {H : Hp} {Q : Bool → Hp → Prop} {Qp : VQ} {Ep : XQ} (rs : RS K H φ sv σ) (m : RM K H φ M) (h : t σ M Qp Ep) (px : XPost K cv φ H sv W Ep)
    (k : ∀ φ' d M' H', Fr φ H φ' H' → RS K H' φ' sv σ → RM K H' φ' M' → XPost K cv φ' H' sv W Ep → Qp d M' → ∃ b, d = .bool b ∧ Q b H') : ttOf K cv W t sv H Q :=
  ⟨φ, σ, M, Qp, Ep, rs, m, h, fun φ' d M' H' f m' q => k φ' d M' H' f (rs.fr f) m' (px.fr f) q, px⟩
theorem taOf.step {K : PySem.W.Frag} {t : Sl.Loc → MS → AQ → XQ → Prop} {φ : List Addr} {σ : Sl.Loc} {M : MS} {sv : St} {H : Hp} {Q : List V → Hp → Prop} {Qp : AQ} {Ep : XQ} (rs : RS K H φ sv σ) (m : RM K H φ M) (h : t σ M Qp Ep) (px : XPost K cv φ H sv W Ep)
    (k : ∀ φ' vs ds M' H', Fr φ H φ' H' → RS K H' φ' sv σ → RM K H' φ' M' → Reps K H' φ' vs ds → XPost K cv φ' H' sv W Ep → Qp ds M' → Q vs H') : taOf K cv W t sv H Q :=
  ⟨φ, σ, M, Qp, Ep, rs, m, h, fun φ' vs ds M' H' f m' r q => k φ' vs ds M' H' f (rs.fr f) m' r (px.fr f) q, px⟩

/-! ### leaves -/
theorem de_var {i : Nat} {x : Str} (h : PE X (.Name x pos) (tVar i)) : PE X (.Name x pos) (tOf X.K cv W (wE O (.var i))) := PE.imp h fun sv H Q ⟨φ, σ, M, Qp, Ep, rs, m, w, p, px⟩ => by
  rw [wE] at w
  cases hd : σ[i]? with
  | none => rw [hd] at w; exact w.elim
  | some o =>
    cases o with
    | none => rw [hd] at w; exact w.elim
    | some d =>
      rw [hd] at w
      obtain ⟨v, h1, h2⟩ := rs.get i d hd
      exact ⟨v, h1, p.here m h2 w⟩
theorem de_con {d : D} {v : V} (h : PE X e (tC v)) (r : ∀ H φ, Rep X.K H φ v d) : PE X e (tOf X.K cv W (wE O (.con d))) := PE.imp h fun sv H Q ⟨φ, σ, M, Qp, Ep, rs, m, w, p, px⟩ => by
  rw [wE] at w
  exact p.here m (r _ _) w

/-! ### operators -/
theorem de_bin {o : Operator} {o' : Op2} (ho : OpD X (binaryOp o) (bin2 o')) (ha : PE X a (tOf X.K cv W (wE O la))) (hb : PE X b (tOf X.K cv W (wE O lb))) : PE X (.BinOp a o b pos) (tOf X.K cv W (wE O (.bin o' la lb))) :=
  PE.imp (pe_op (pk_op ho) ha hb) fun sv H Q ⟨φ, σ, M, Qp, Ep, rs, m, w, p, px⟩ => by
    rw [wE] at w
    exact tOf.step rs m w px fun φ1 x d M1 H1 f1 rs1 m1 r1 px1 w1 => tOf.step rs1 m1 w1 px1 fun φ2 y e M2 H2 f2 rs2 m2 r2 px2 w2 =>
      ⟨φ2, M2, d, e, Qp, m2, r1.fr f2, r2, w2, p.fr (f1.trans f2)⟩
theorem cmp_read {K : PySem.W.Frag} {o' : Cmp} : ∀ sv H Q, tOf K cv W (wE O (.cmp o' la lb)) sv H Q → tOp (rPk2 K (cmpQ o')) (tOf K cv W (wE O la)) (tOf K cv W (wE O lb)) sv H Q := fun sv H Q ⟨φ, σ, M, Qp, Ep, rs, m, w, p, px⟩ => by
  rw [wE] at w
  exact tOf.step rs m w px fun φ1 x d M1 H1 f1 rs1 m1 r1 px1 w1 => tOf.step rs1 m1 w1 px1 fun φ2 y e M2 H2 f2 rs2 m2 r2 px2 w2 =>
    ⟨φ2, M2, d, e, Qp, m2, r1.fr f2, r2, w2, p.fr (f1.trans f2)⟩
theorem de_cmp {o : CmpOp} {o' : Cmp} (ho : OpD X (compareOp o) (cmpQ o')) (ha : PE X a (tOf X.K cv W (wE O la))) (hb : PE X b (tOf X.K cv W (wE O lb))) (hm : behindInMarks o b = false) :
    PE X (.Compare a [o] [b] pos) (tOf X.K cv W (wE O (.cmp o' la lb))) := PE.imp (pe_cmpR (pk_op ho) ha hb hm) cmp_read
/-- a test's wish as a value's -/
theorem tt_read {K : PySem.W.Frag} {t : PW1} {sv : L2.St} {H : Hp} {Q : Bool → Hp → Prop} (h : ttOf K cv W t sv H Q) : tOf K cv W t sv H fun x H' => ∃ k, x = .bl k ∧ Q k H' := by
  obtain ⟨φ, σ, M, Qp, Ep, rs, m, w, p, px⟩ := h
  refine ⟨φ, σ, M, Qp, Ep, rs, m, w, ⟨fun φ1 v d M1 H1 f1 m1 r1 w1 => ?_⟩, px⟩
  obtain ⟨b, rfl, q⟩ := p φ1 d M1 H1 f1 m1 w1
  cases r1
  exact ⟨b, rfl, q⟩
theorem dt_cmp {o : CmpOp} {o' : Cmp} (ho : OpD X (compareOp o) (cmpQ o')) (ha : PE X a (tOf X.K cv W (wE O la))) (hb : PE X b (tOf X.K cv W (wE O lb))) (hm : behindInMarks o b = false) :
    PT X (.Compare a [o] [b] pos) (ttOf X.K cv W (wE O (.cmp o' la lb))) := PT.imp (pt_cmpR (pk_op ho) ha hb hm) fun _ _ _ h => cmp_read _ _ _ (tt_read h)
/-- a comparison of the store gives a truth -/
def boolQ (Q : Bool → MS → Prop) : VQ := fun d M => ∃ k, d = .bool k ∧ Q k M
theorem chain_read {K : PySem.W.Frag} {o' o2' : Cmp} (hq : ∀ d e M (Q Q' : Bool → Prop), (∀ k, Q k → Q' k) → cmp2 o' d e M Q → cmp2 o' d e M Q') : ∀ sv H Q, tOf K cv W (wE O (.chain o' o2' la lb lc)) sv H Q →
    tChain (rPk2 K (cmpQ o')) (rPk2 K (cmpQ o2')) (tOf K cv W (wE O la)) (tOf K cv W (wE O lb)) (tOf K cv W (wE O lc)) sv H Q :=
  fun sv H Q ⟨φ, σ, M, Qp, Ep, rs, m, w, p, px⟩ => by
    rw [wE] at w
    exact tOf.step rs m w px fun φ1 x d M1 H1 f1 rs1 m1 r1 px1 w1 => tOf.step rs1 m1 w1 px1 fun φ2 y e M2 H2 f2 rs2 m2 r2 px2 w2 =>
      ⟨φ2, M2, d, e, fun z M3 => M3 = M2 ∧ ∃ k, z = .bool k ∧ (if k = true then wE O lc σ M2 (fun z M3 => cmp2 o2' e z M3 fun k' => Qp (.bool k') M3) Ep else Qp (.bool false) M2), m2, r1.fr f2, r2,
        hq _ _ _ _ _ (fun k hk => ⟨rfl, k, rfl, hk⟩) w2,
        ⟨fun φ3 z zd M3 H3 f3 m3 r3 ⟨eM, k, ez, w3⟩ => by
          subst eM ez
          cases r3
          refine ⟨k, rfl, ?_⟩
          cases k with
          | false =>
            rw [if_neg Bool.false_ne_true] at w3 ⊢
            exact (p.fr (f1.trans (f2.trans f3))).here m3 (.bl _) w3
          | true =>
            rw [if_pos rfl] at w3 ⊢
            exact tOf.step (rs2.fr f3) m3 w3 (px2.fr f3) fun φ4 u g M4 H4 f4 rs4 m4 r4 px4 w4 =>
              ⟨φ4, M4, e, g, Qp, m4, r2.fr (f3.trans f4), r4, w4, p.fr (f1.trans (f2.trans (f3.trans f4)))⟩⟩⟩
theorem de_chain {o o2 : CmpOp} {o' o2' : Cmp} (ho : OpD X (compareOp o) (cmpQ o')) (ho2 : OpD X (compareOp o2) (cmpQ o2')) (ha : PE X a (tOf X.K cv W (wE O la))) (hb : PE X b (tOf X.K cv W (wE O lb)))
    (hc : PE X c (tOf X.K cv W (wE O lc))) (hm : lastMarks [o, o2] [b, c] = false) (hq : ∀ d e M (Q Q' : Bool → Prop), (∀ k, Q k → Q' k) → cmp2 o' d e M Q → cmp2 o' d e M Q') :
    PE X (.Compare a [o, o2] [b, c] pos) (tOf X.K cv W (wE O (.chain o' o2' la lb lc))) := PE.imp (pe_chain (pk_op ho) (pk_op ho2) ha hb hc hm) (chain_read hq)
theorem dt_chain {o o2 : CmpOp} {o' o2' : Cmp} (ho : OpD X (compareOp o) (cmpQ o')) (ho2 : OpD X (compareOp o2) (cmpQ o2')) (ha : PE X a (tOf X.K cv W (wE O la))) (hb : PE X b (tOf X.K cv W (wE O lb)))
    (hc : PE X c (tOf X.K cv W (wE O lc))) (hm : lastMarks [o, o2] [b, c] = false) (hq : ∀ d e M (Q Q' : Bool → Prop), (∀ k, Q k → Q' k) → cmp2 o' d e M Q → cmp2 o' d e M Q') :
    PT X (.Compare a [o, o2] [b, c] pos) (ttOf X.K cv W (wE O (.chain o' o2' la lb lc))) := PT.imp (pt_chain (pk_op ho) (pk_op ho2) ha hb hc hm) fun _ _ _ h => chain_read hq _ _ _ (tt_read h)
theorem de_and {rest : List Expr} (ha : PE X a (tOf X.K cv W (wE O la))) (hb : PE X (.BoolOp .And (b :: rest) pos) (tOf X.K cv W (wE O lb))) : PE X (.BoolOp .And (a :: b :: rest) pos) (tOf X.K cv W (wE O (.and_ la lb))) :=
  PE.imp (pe_and ha hb) fun sv H Q ⟨φ, σ, M, Qp, Ep, rs, m, w, p, px⟩ => by
    rw [wE] at w
    refine tOf.step rs m w px fun φ1 x d M1 H1 f1 rs1 m1 r1 px1 w1 => ?_
    cases r1 with
    | bl k =>
      rw [brn_bool] at w1
      refine ⟨k, rfl, ?_⟩
      cases k with
      | true =>
        rw [if_pos rfl] at w1 ⊢
        exact ⟨φ1, σ, M1, Qp, Ep, rs1, m1, w1, p.fr f1, px1⟩
      | false =>
        rw [if_neg Bool.false_ne_true] at w1 ⊢
        exact (p.fr f1).here m1 (.bl _) w1
    | _ => exact w1.elim
theorem de_or {rest : List Expr} (ha : PE X a (tOf X.K cv W (wE O la))) (hb : PE X (.BoolOp .Or (b :: rest) pos) (tOf X.K cv W (wE O lb))) : PE X (.BoolOp .Or (a :: b :: rest) pos) (tOf X.K cv W (wE O (.or_ la lb))) :=
  PE.imp (pe_or ha hb) fun sv H Q ⟨φ, σ, M, Qp, Ep, rs, m, w, p, px⟩ => by
    rw [wE] at w
    refine tOf.step rs m w px fun φ1 x d M1 H1 f1 rs1 m1 r1 px1 w1 => ?_
    cases r1 with
    | bl k =>
      rw [brn_bool] at w1
      refine ⟨k, rfl, ?_⟩
      cases k with
      | true =>
        rw [if_pos rfl] at w1 ⊢
        exact (p.fr f1).here m1 (.bl _) w1
      | false =>
        rw [if_neg Bool.false_ne_true] at w1 ⊢
        exact ⟨φ1, σ, M1, Qp, Ep, rs1, m1, w1, p.fr f1, px1⟩
    | _ => exact w1.elim
theorem de_not (ha : PE X a (tOf X.K cv W (wE O la))) : PE X (.UnaryOp .Not a pos) (tOf X.K cv W (wE O (.not_ la))) :=
  PE.imp (pe_not ha) fun sv H Q ⟨φ, σ, M, Qp, Ep, rs, m, w, p, px⟩ => by
    rw [wE] at w
    refine tOf.step rs m w px fun φ1 x d M1 H1 f1 rs1 m1 r1 px1 w1 => ?_
    cases r1 with
    | bl k => exact ⟨k, rfl, (p.fr f1).here m1 (.bl _) w1⟩
    | _ => exact w1.elim

/-! ### tests -/
theorem dt_val (h : PE X e (tOf X.K cv W (wE O la))) (he : ∀ whole, isTrue e X.env whole = (do let v ← whole; standAt e.pos; holding [v] (truthy v))) : PT X e (ttOf X.K cv W (wE O la)) :=
  PT.imp (pt_val h he) fun sv H Q ⟨φ, σ, M, Qp, Ep, rs, m, w, p, px⟩ => tOf.step rs m w px fun φ1 x d M1 H1 f1 rs1 m1 r1 px1 w1 => by
    obtain ⟨b, rfl, q⟩ := p φ1 d M1 H1 f1 m1 w1
    cases r1
    exact ⟨b, rfl, q⟩
theorem dt_not (ha : PT X a (ttOf X.K cv W (wE O la))) : PT X (.UnaryOp .Not a pos) (ttOf X.K cv W (wE O (.not_ la))) :=
  PT.imp (pt_not ha) fun sv H Q ⟨φ, σ, M, Qp, Ep, rs, m, w, p, px⟩ => by
    rw [wE] at w
    refine ttOf.step rs m w px fun φ1 d M1 H1 f1 rs1 m1 px1 w1 => ?_
    cases d <;> first | exact w1.elim | skip
    rename_i k
    obtain ⟨b, e, q⟩ := p φ1 _ M1 H1 f1 m1 w1
    cases e
    exact ⟨k, rfl, q⟩
theorem dw_one {op : BoolOp} (ha : PT X a (ttOf X.K cv W (wE O la))) : PW X (.BoolOp op [a] pos) (ttOf X.K cv W (wE O la)) := by
  cases op with
  | And => exact pw_and1 ha
  | Or => exact pw_or1 ha
theorem dw_and {rest : List Expr} (ha : PT X a (ttOf X.K cv W (wE O la))) (hb : PW X (.BoolOp .And (b :: rest) pos) (ttOf X.K cv W (wE O lb))) : PW X (.BoolOp .And (a :: b :: rest) pos) (ttOf X.K cv W (wE O (.and_ la lb))) :=
  PWt.imp (pw_and ha hb) fun sv H Q ⟨φ, σ, M, Qp, Ep, rs, m, w, p, px⟩ => by
    rw [wE] at w
    refine ttOf.step rs m w px fun φ1 d M1 H1 f1 rs1 m1 px1 w1 => ?_
    cases d <;> first | exact w1.elim | skip
    rename_i k
    rw [brn_bool] at w1
    refine ⟨k, rfl, ?_⟩
    cases k with
    | true =>
      rw [if_pos rfl] at w1 ⊢
      exact ⟨φ1, σ, M1, Qp, Ep, rs1, m1, w1, fun φ' d M' H' f' => p φ' d M' H' (f1.trans f'), px1⟩
    | false =>
      rw [if_neg Bool.false_ne_true] at w1 ⊢
      obtain ⟨b, e, q⟩ := p φ1 _ M1 H1 f1 m1 w1
      cases e
      exact q
theorem dw_or {rest : List Expr} (ha : PT X a (ttOf X.K cv W (wE O la))) (hb : PW X (.BoolOp .Or (b :: rest) pos) (ttOf X.K cv W (wE O lb))) : PW X (.BoolOp .Or (a :: b :: rest) pos) (ttOf X.K cv W (wE O (.or_ la lb))) :=
  PWt.imp (pw_or ha hb) fun sv H Q ⟨φ, σ, M, Qp, Ep, rs, m, w, p, px⟩ => by
    rw [wE] at w
    refine ttOf.step rs m w px fun φ1 d M1 H1 f1 rs1 m1 px1 w1 => ?_
    cases d <;> first | exact w1.elim | skip
    rename_i k
    rw [brn_bool] at w1
    refine ⟨k, rfl, ?_⟩
    cases k with
    | true =>
      rw [if_pos rfl] at w1 ⊢
      obtain ⟨b, e, q⟩ := p φ1 _ M1 H1 f1 m1 w1
      cases e
      exact q
    | false =>
      rw [if_neg Bool.false_ne_true] at w1 ⊢
      exact ⟨φ1, σ, M1, Qp, Ep, rs1, m1, w1, fun φ' d M' H' f' => p φ' d M' H' (f1.trans f'), px1⟩

/-! ### displays, items, slices, calls -/
variable {es : List Expr} {las : LA}
theorem da_nil : PA X [] (taOf X.K cv W (wA O .nil)) := PAt.imp pa_nil fun sv H Q ⟨φ, σ, M, Qp, Ep, rs, m, w, p, px⟩ => by
  rw [wA] at w
  exact p φ [] [] M H (Fr.refl _ _) m .nil w
theorem da_cons (ha : PE X a (tOf X.K cv W (wE O la))) (hr : PA X es (taOf X.K cv W (wA O las))) (hs : starEach (a :: es) X.env = (false, eval a X.env) :: starEach es X.env) :
    PA X (a :: es) (taOf X.K cv W (wA O (.cons la las))) := PAt.imp (pa_cons ha hr hs) fun sv H Q ⟨φ, σ, M, Qp, Ep, rs, m, w, p, px⟩ => by
  rw [wA] at w
  exact tOf.step rs m w px fun φ1 x d M1 H1 f1 rs1 m1 r1 px1 w1 => taOf.step rs1 m1 w1 px1 fun φ2 ys ds M2 H2 f2 rs2 m2 r2 px2 w2 =>
    p φ2 _ _ M2 H2 (f1.trans f2) m2 (.cons (r1.fr f2) r2) w2
theorem de_tup {k : Nat} (h : PA X es (taOf X.K cv W (wA O las))) : PE X (.Tuple es k pos) (tOf X.K cv W (wE O (.tup las))) := PE.imp (pe_tup h) fun sv H Q ⟨φ, σ, M, Qp, Ep, rs, m, w, p, px⟩ => by
  rw [wE] at w
  exact taOf.step rs m w px fun φ1 xs ds M1 H1 f1 rs1 m1 r1 px1 w1 => ⟨by rw [r1.len]; exact sz w1.1, fun q hq => (p.fr f1).tup m1 r1 w1.2 hq⟩
theorem de_lst (h : PA X es (taOf X.K cv W (wA O las))) : PE X (.List es pos) (tOf X.K cv W (wE O (.lst las))) := PE.imp (pe_lst h) fun sv H Q ⟨φ, σ, M, Qp, Ep, rs, m, w, p, px⟩ => by
  rw [wE] at w
  exact taOf.step rs m w px fun φ1 xs ds M1 H1 f1 rs1 m1 r1 px1 w1 => ⟨by rw [r1.len]; exact sz w1.1, fun q hq => (p.fr f1).lst m1 r1 w1.2 hq⟩
theorem de_dnew : PE X (.Dict [] [] pos) (tOf X.K cv W (wE O .dnew)) := PE.imp pe_dnewK fun sv H Q ⟨φ, σ, M, Qp, Ep, rs, m, w, p, px⟩ => by
  rw [wE] at w
  exact fun q hq => p.obj (o := .dict []) m hq ⟨[], upd_same, .nil⟩ w
theorem de_idx (hu : X.A.units + 1 < cLine) (ha : PE X a (tOf X.K cv W (wE O la))) (hb : PE X b (tOf X.K cv W (wE O lb))) (hs : PlainIx b) : PE X (.Subscript a b pos) (tOf X.K cv W (wE O (.idx la lb))) :=
  PE.imp (pe_ix (pk_ix (ixd hu)) ha hb hs) fun sv H Q ⟨φ, σ, M, Qp, Ep, rs, m, w, p, px⟩ => by
    rw [wE] at w
    exact tOf.step rs m w px fun φ1 x d M1 H1 f1 rs1 m1 r1 px1 w1 => tOf.step rs1 m1 w1 px1 fun φ2 y e M2 H2 f2 rs2 m2 r2 px2 w2 =>
      ⟨φ2, M2, d, e, Qp, m2, r1.fr f2, r2, w2, p.fr (f1.trans f2)⟩
/-- a part of a slice: at most one -/
def toOf (K : PySem.W.Frag) (cv : Nat → Value) (W : WX) (t : Sl.Loc → MS → AQ → XQ → Prop) : TO := fun sv H Q => ∃ φ σ M Qp Ep, RS K H φ sv σ ∧ RM K H φ M ∧ t σ M Qp Ep ∧
  (∀ φ' ds M' H', Fr φ H φ' H' → RM K H' φ' M' → Qp ds M' → ∃ o, partOf ds = some o ∧ Q (o.map Int.ofNat) H') ∧ XPost K cv φ H sv W Ep
theorem do_none : PO X none (toOf X.K cv W (wA O .nil)) := ⟨fun pins s sv H Q I ⟨φ, σ, M, Qp, Ep, rs, m, w, p, px⟩ => by
  rw [wA] at w
  obtain ⟨o, h1, q⟩ := p φ [] M H (Fr.refl _ _) m w
  cases h1
  exact po_none.run pins s sv H Q I q⟩
theorem do_some (ha : PE X a (tOf X.K cv W (wE O la))) : PO X (some a) (toOf X.K cv W (wA O (.cons la .nil))) := ⟨fun pins s sv H Q I ⟨φ, σ, M, Qp, Ep, rs, m, w, p, px⟩ => by
  rw [wA] at w
  refine (po_some ha).run pins s sv H Q I (tOf.step rs m w px fun φ1 x d M1 H1 f1 rs1 m1 r1 px1 w1 => ?_)
  rw [wA] at w1
  obtain ⟨o, h1, q⟩ := p φ1 [d] M1 H1 f1 m1 w1
  rcases part_int (.cons r1 .nil) h1 with ⟨h, _⟩ | ⟨n, h, rfl⟩
  · cases h
  · cases h
    exact ⟨n, rfl, q⟩⟩
theorem slice2_parts {x : D} {l h : List D} {M : MS} {Q : VQ} (w : slice2 x l h M Q) : ∃ a b, partOf l = some a ∧ partOf h = some b := by
  unfold slice2 at w
  split at w
  · rename_i a b h1 h2; exact ⟨a, b, h1, h2⟩
  · exact w.elim
theorem de_slice {lo hi : Option Expr} {llo lhi : LA} {p2 : Pos} (ha : PE X a (tOf X.K cv W (wE O la))) (hl : PO X lo (toOf X.K cv W (wA O llo))) (hh : PO X hi (toOf X.K cv W (wA O lhi))) :
    PE X (.Subscript a (.Slice lo hi none p2) pos) (tOf X.K cv W (wE O (.slice la llo lhi))) :=
  PE.imp (pe_slice pk_sl ha hl hh) fun sv H Q ⟨φ, σ, M, Qp, Ep, rs, m, w, p, px⟩ => by
    rw [wE] at w
    refine tOf.step rs m w px fun φ1 x d M1 H1 f1 rs1 m1 r1 px1 w1 => ⟨φ1, σ, M1, _, Ep, rs1, m1, w1, fun φ2 ds M2 H2 f2 m2 w2 => ?_, px1⟩
    obtain ⟨hs, w2⟩ := w2
    obtain ⟨o, ho⟩ := Option.isSome_iff_exists.mp hs
    refine ⟨o, ho, φ2, σ, M2, _, Ep, rs1.fr f2, m2, w2, fun φ3 es M3 H3 f3 m3 w3 => ?_, px1.fr f2⟩
    obtain ⟨q1, q2, h1, h2⟩ := slice2_parts w3
    exact ⟨q2, h2, φ3, M3, d, ds, es, o, q2, Qp, m3, r1.fr (f2.trans f3), ho, h2, rfl, rfl, w3, p.fr (f1.trans (f2.trans f3))⟩
theorem de_revl {k : Nat} {p1 p2 p3 : Pos} (ha : PE X a (tOf X.K cv W (wE O la))) : PE X (.Subscript a (.Slice none none (some (.UnaryOp .USub (.Constant (.int 1) k p1) p2)) p3) pos) (tOf X.K cv W (wE O (.revl la))) :=
  PE.imp (pe_revL ha) fun sv H Q ⟨φ, σ, M, Qp, Ep, rs, m, w, p, px⟩ => by
    rw [wE] at w
    refine tOf.step rs m w px fun φ1 x d M1 H1 f1 rs1 m1 r1 px1 w1 => ?_
    cases r1 with
    | @ref a n f =>
      simp only [revl2] at w1
      cases hM : M1[n]? with
      | none => rw [hM] at w1; exact w1.elim
      | some o =>
        rw [hM] at w1
        cases o with
        | lst ds =>
          obtain ⟨vs, q, t⟩ := m1.sq hM f
          exact ⟨a, vs, rfl, q, fun l hl => (p.fr f1).lst m1 t.rev w1 hl⟩
        | _ => exact w1.elim
    | _ => exact w1.elim

/-! ### calls -/
/-- a def's promise: what the oracle wants -/
def spF (K : PySem.W.Frag) (cv : Nat → Value) (O : Oracle) (f na : Nat) : Sp := fun vs H Q E => vs.length = na ∧ ∃ φ M ds Qp Ep, RM K H φ M ∧ Reps K H φ vs ds ∧ O f ds M Qp Ep ∧ Post K φ H Q Qp ∧
  (∀ φ' c M' H', Fr φ H φ' H' → RM K H' φ' M' → Ep c M' → E (cv c) none H')
theorem de_call {x : Str} {p : Pos} {fa : Addr} {fd : FuncData} {ps : List Str} {k f na : Nat} (F : FnOk X.prog X.w X.K X.mg X.base (L2N.CX X.prog X.w) k fa fd ps (spF X.K cv O f na)) (hr : Room k X.A) (hg : Gl X x) (hm : X.mg x = some (.ref fa))
    (hk : PySem.W.keepIn X.K (.ref fa) = true) (hb : Binds X.K fd ps []) (tk : L2N.Takes X W) (ha : PA X (a :: es) (taOf X.K cv W (wA O las))) (hdb : (x == ("__debug__" : Str)) = false)
    (he : starEach (a :: es) X.env = (false, eval a X.env) :: starEach es X.env) (hpl : (backTo pos (starEach es X.env)).any (·.1) = false)
    (hn : ∀ ds M Q E, O f ds M Q E → ds.length = na) :
    PE X (.Call (.Name x p) (a :: es) [] pos) (tOf X.K cv W (wE O (.call f las))) :=
  PE.imp (pe_callS F hr hg hm hk hb (fun σ => L2N.passAt tk σ) ha hdb he hpl) fun sv H Q ⟨φ, σ, M, Qp, Ep, rs, m, w, p, px⟩ => by
    rw [wE] at w
    exact taOf.step rs m w px fun φ1 xs ds M1 H1 f1 rs1 m1 r1 px1 w1 => ⟨by rw [r1.len]; exact hn _ _ _ _ w1, φ1, M1, ds, Qp, Ep, m1, r1, w1, p.fr f1, px1⟩
theorem de_bi {x : Str} {p : Pos} {id : String} {k : Bi} (hc : CallD X (.builtin id) (bi2 k)) (hg : Gl X x) (hm : X.mg x = none) (hv : bootBuiltins x = some (.builtin id)) (ha : PA X (a :: es) (taOf X.K cv W (wA O las))) (hn : x ≠ "__name__")
    (hdb : (x == ("__debug__" : Str)) = false) (he : starEach (a :: es) X.env = (false, eval a X.env) :: starEach es X.env) (hpl : (backTo pos (starEach es X.env)).any (·.1) = false) :
    PE X (.Call (.Name x p) (a :: es) [] pos) (tOf X.K cv W (wE O (.bi k las))) :=
  PE.imp (pe_callB (pk_call hc) hg hm hv ha hn hdb he hpl) fun sv H Q ⟨φ, σ, M, Qp, Ep, rs, m, w, p, px⟩ => by
    rw [wE] at w
    exact taOf.step rs m w px fun φ1 xs ds M1 H1 f1 rs1 m1 r1 px1 w1 => ⟨φ1, M1, ds, Qp, m1, r1, w1, p.fr f1⟩
theorem de_biT {x : Str} {p : Pos} {T : String} {k : Bi} (hc : CallD X (.type T) (bi2 k)) (hg : Gl X x) (hm : X.mg x = none) (hv : bootBuiltins x = some (.type T)) (ha : PA X (a :: es) (taOf X.K cv W (wA O las))) (hn : x ≠ "__name__")
    (hdb : (x == ("__debug__" : Str)) = false) (he : starEach (a :: es) X.env = (false, eval a X.env) :: starEach es X.env) (hpl : (backTo pos (starEach es X.env)).any (·.1) = false) :
    PE X (.Call (.Name x p) (a :: es) [] pos) (tOf X.K cv W (wE O (.bi k las))) :=
  PE.imp (pe_callTy (pk_call hc) hg hm hv ha hn hdb he hpl) fun sv H Q ⟨φ, σ, M, Qp, Ep, rs, m, w, p, px⟩ => by
    rw [wE] at w
    exact taOf.step rs m w px fun φ1 xs ds M1 H1 f1 rs1 m1 r1 px1 w1 => ⟨φ1, M1, ds, Qp, m1, r1, w1, p.fr f1⟩
/-- isinstance(x, T) -/
theorem isiR (t : Ty) : CallR X (.builtin "isinstance") (fun xs H Q => ∃ x, xs = [x, .ty (tyName t)] ∧ ∃ φ M d b Qp, RM X.K H φ M ∧ Rep X.K H φ x d ∧ isI t d M = some b ∧ Qp (.bool b) M ∧ Post X.K φ H Q Qp) :=
  fun pins s sv H xs us Q I rv ⟨x, e, φ, M, d, b, Qp, m, r, h, w, p⟩ => by
    subst e
    exact cd_isi t I rv m r h w p
theorem de_isi {t : Ty} {x tn : Str} {p p' : Pos} (hg : Gl X x) (hm : X.mg x = none) (hv : bootBuiltins x = some (.builtin "isinstance")) (ha : PE X a (tOf X.K cv W (wE O la))) (ht : PE X (.Name tn p') (tC (.ty (tyName t)))) (hn : x ≠ "__name__")
    (hdb : (x == ("__debug__" : Str)) = false) (he : starEach [a, .Name tn p'] X.env = (false, eval a X.env) :: starEach [.Name tn p'] X.env) :
    PE X (.Call (.Name x p) [a, .Name tn p'] [] pos) (tOf X.K cv W (wE O (.bi (.isi t) (.cons la .nil)))) :=
  PE.imp (pe_callB (isiR t) hg hm hv (pa_cons ha (pa_cons ht pa_nil) he) hn hdb he rfl) fun sv H Q ⟨φ, σ, M, Qp, Ep, rs, m, w, p, px⟩ => by
    rw [wE, wA] at w
    refine tOf.step rs m w px fun φ1 x d M1 H1 f1 rs1 m1 r1 px1 w1 => ?_
    rw [wA] at w1
    have w1 : (match isI t d M1 with | some b => Qp (.bool b) M1 | none => False) := w1
    cases hb : isI t d M1 with
    | none => rw [hb] at w1; exact w1.elim
    | some b =>
      rw [hb] at w1
      exact ⟨x, rfl, φ1, M1, d, b, Qp, m1, r1, hb, w1, p.fr f1⟩
end
end Sl
/-! S5: methods, what is walked, comprehensions. -/
namespace Sl
open PySem PySem.Spec PyProof.Rows L2
section
variable {X : Cx} {cv : Nat → Value} {W : WX} {O : Oracle} {a b c e : Expr} {la lb lc : LE} {pos apos : Pos} {es : List Expr} {las : LA}
/-- the built-in type that a method's receiver has -/
def mtTy : Mt → String
  | .split => "str" | .join => "str" | .dpop => "dict" | .setdefault => "dict" | _ => "list"
theorem rcv_ty {mt : Mt} {H : Hp} {φ : List Addr} {M : MS} {x : V} {d : D} {K : PySem.W.Frag} (m : RM K H φ M) (r : Rep K H φ x d) (h : rcv mt d M) : tyV K (mtTy mt) x H := by
  have dict : (∃ n kvs, d = .ref n ∧ M[n]? = some (.dict kvs)) → tyV K "dict" x H := by
    rintro ⟨n, kvs, rfl, hM⟩
    cases r with
    | @ref p n f =>
      obtain ⟨vs, q, _⟩ := m.at_ n _ p hM f
      exact .inr (.inr (.inl ⟨rfl, .inl ⟨vs, q⟩⟩))
  have str : (∃ s, d = .str s) → tyV K "str" x H := by
    rintro ⟨s, rfl⟩
    cases r
    rfl
  have list : (∃ n ds, d = .ref n ∧ M[n]? = some (.lst ds)) → tyV K "list" x H := by
    rintro ⟨n, ds, rfl, hM⟩
    cases r with
    | @ref p n f =>
      obtain ⟨vs, q, _⟩ := m.at_ n _ p hM f
      exact .inl ⟨rfl, vs, .inl (.inl q)⟩
  cases mt <;> first | exact list h | exact str h | exact dict h
theorem de_meth0 {mt : Mt} {name : Str} {id : String} (pa : PlainAttrs (mtTy mt)) (slot : Slot (mtTy mt) name id) (hty : typeOf (.builtin id) = pure (.type "method_descriptor")) (hm : MtD X id (meth2 mt)) (ho : PE X a (tOf X.K cv W (wE O la)))
    (hbase : attributeBase a name X.env (eval a X.env) = eval a X.env) (hline : (apos.endLine == pos.line) = true) : PE X (.Call (.Attribute a name apos) [] [] pos) (tOf X.K cv W (wE O (.meth mt la .nil))) :=
  PE.imp (pe_bm0 pa slot hty (pk_mt hm) ho hbase hline) fun sv H Q ⟨φ, σ, M, Qp, Ep, rs, m, w, p, px⟩ => by
    rw [wE] at w
    refine tOf.step rs m w px fun φ1 x d M1 H1 f1 rs1 m1 r1 px1 w1 => ?_
    rw [wA] at w1
    exact ⟨rcv_ty m1 r1 w1.1, φ1, M1, d, [], Qp, m1, r1, .nil, w1.2, p.fr f1⟩
theorem de_meth {mt : Mt} {name : Str} {id : String} (pa : PlainAttrs (mtTy mt)) (slot : Slot (mtTy mt) name id) (hty : typeOf (.builtin id) = pure (.type "method_descriptor")) (hm : MtD X id (meth2 mt)) (ho : PE X a (tOf X.K cv W (wE O la)))
    (ha : PA X (e :: es) (taOf X.K cv W (wA O las))) (hbase : attributeBase a name X.env (eval a X.env) = eval a X.env)
    (hfew : ((backTo pos (starEach (e :: es) X.env)).all (fun x => !x.1) && (backToKw pos (keywordEach [] X.env)).all (fun x => x.1.isSome) && decide ((e :: es).length + ([] : List Keyword).length + (if ([] : List Keyword).isEmpty then 0 else 1) < 30)) = true)
    (hline : (apos.endLine == pos.line) = true) (hs : starEach (e :: es) X.env = (false, eval e X.env) :: starEach es X.env) (hplain : (backTo pos (starEach es X.env)).any (·.1) = false) :
    PE X (.Call (.Attribute a name apos) (e :: es) [] pos) (tOf X.K cv W (wE O (.meth mt la las))) :=
  PE.imp (pe_bm pa slot hty (pk_mt hm) ho ha hbase hfew hline hs hplain) fun sv H Q ⟨φ, σ, M, Qp, Ep, rs, m, w, p, px⟩ => by
    rw [wE] at w
    refine tOf.step rs m w px fun φ1 x d M1 H1 f1 rs1 m1 r1 px1 w1 => ⟨rcv_ty m1 r1 w1.1, ?_⟩
    exact taOf.step rs1 m1 w1.2 px1 fun φ2 ys ds M2 H2 f2 rs2 m2 r2 px2 w2 => ⟨φ2, M2, d, ds, Qp, m2, r1.fr f2, r2, w2, p.fr (f1.trans f2)⟩

/-! ### what is walked: the turns as the layer tells them -/
/-- a walk over xs: what it gives at each turn, the hold h being as it was -/
structure Wk (K : PySem.W.Frag) (φ0 : List Addr) (H0 : Hp) (J : It) (xs : List D) (h : Hold) : Prop where
  goes : ∀ (i : Nat) (d : D) (φ : List Addr) (M : MS) (H : Hp), Fr φ0 H0 φ H → RM K H φ M → h.ok M → xs[i]? = some d → J.go i H ∧ ∀ x H', J.yld i H x H' → Fr φ H φ H' ∧ RM K H' φ M ∧ Rep K H' φ x d
  stops : ∀ (φ : List Addr) (M : MS) (H : Hp), Fr φ0 H0 φ H → RM K H φ M → h.ok M → J.stop xs.length H
  st : ∀ M, h.start M = M := by intro _; rfl
  fi : ∀ M, h.fin M = M := by intro _; rfl
theorem wk_list {K : PySem.W.Frag} {φ0 : List Addr} {H0 : Hp} {n : Nat} {a : Addr} {ds : List D} (f : φ0[n]? = some a) : Wk K φ0 H0 (Itl K a) ds (.live n ds) where
  goes := fun i d φ M H fr m hM hi => by
    obtain ⟨vs, q, t⟩ := m.sq hM (pre_get fr.pre f)
    obtain ⟨v, hv, rv⟩ := t.get hi
    refine ⟨⟨vs, v, q, hv⟩, fun x H' ⟨e, y⟩ => ?_⟩
    subst e
    have := y vs q
    rw [hv] at this
    cases this
    exact ⟨Fr.refl _ _, m, rv⟩
  stops := fun φ M H fr m hM => by
    obtain ⟨vs, q, t⟩ := m.sq hM (pre_get fr.pre f)
    exact ⟨vs, q, by rw [t.len]; exact Nat.le_refl _⟩
theorem wk_rev {K : PySem.W.Frag} {φ0 : List Addr} {H0 : Hp} {n : Nat} {a : Addr} {ds : List D} (f : φ0[n]? = some a) : Wk K φ0 H0 (Itv K a ds.length) ds.reverse (.live n ds) where
  goes := fun i d φ M H fr m hM hi => by
    obtain ⟨vs, q, t⟩ := m.sq hM (pre_get fr.pre f)
    have hlt : i < ds.length := by
      have := (List.getElem?_eq_some_iff.mp hi).1
      rwa [List.length_reverse] at this
    have hi2 : ds[ds.length - 1 - i]? = some d := by rw [← hi, List.getElem?_reverse hlt]
    obtain ⟨v, hv, rv⟩ := t.get hi2
    refine ⟨⟨hlt, vs, v, q, hv⟩, fun x H' ⟨e, y⟩ => ?_⟩
    subst e
    have := y vs q
    rw [hv] at this
    cases this
    exact ⟨Fr.refl _ _, m, rv⟩
  stops := fun φ M H fr m hM => by
    show ds.length ≤ ds.reverse.length
    rw [List.length_reverse]
    exact Nat.le_refl _
theorem enum_get : ∀ (ds : List D) (k i : Nat) (d : D), (enumL k ds)[i]? = some d → ∃ e, ds[i]? = some e ∧ d = .tup [.int ((k + i : Nat) : Int), e]
  | [], _, _, _, h => by simp [enumL] at h
  | x :: r, k, 0, d, h => by
    rw [enumL] at h
    exact ⟨x, rfl, (Option.some.inj h).symm⟩
  | x :: r, k, i + 1, d, h => by
    rw [enumL] at h
    obtain ⟨e, h1, h2⟩ := enum_get r (k + 1) i d h
    exact ⟨e, h1, by rw [h2, show k + 1 + i = k + (i + 1) by omega]⟩
theorem enum_len : ∀ (ds : List D) (k : Nat), (enumL k ds).length = ds.length
  | [], _ => rfl
  | x :: r, k => by rw [enumL, List.length_cons, List.length_cons, enum_len r]
theorem wk_enum {K : PySem.W.Frag} {φ0 : List Addr} {H0 : Hp} {n : Nat} {a : Addr} {ds : List D} (f : φ0[n]? = some a) : Wk K φ0 H0 (Ite K a) (enumL 0 ds) (.live n ds) where
  goes := fun i d φ M H fr m hM hi => by
    obtain ⟨vs, q, t⟩ := m.sq hM (pre_get fr.pre f)
    obtain ⟨e, he, rfl⟩ := enum_get ds 0 i d hi
    obtain ⟨v, hv, rv⟩ := t.get he
    refine ⟨⟨vs, v, q, hv⟩, fun x H' ⟨T, y, ex, hT, eH, hy⟩ => ?_⟩
    subst ex eH
    have := hy vs q
    rw [hv] at this
    cases this
    have fn : Fr φ H φ (upd H T (.tup [.int ((i : Nat) : Int), v])) := Fr.newT hT
    refine ⟨fn, m.newT hT, .tup upd_same (.cons ?_ (.cons (rv.fr fn) .nil))⟩
    rw [Nat.zero_add]
    exact .int _
  stops := fun φ M H fr m hM => by
    obtain ⟨vs, q, t⟩ := m.sq hM (pre_get fr.pre f)
    exact ⟨vs, q, by rw [enum_len, t.len]; exact Nat.le_refl _⟩
theorem wk_tup {K : PySem.W.Frag} {φ0 : List Addr} {H0 : Hp} {a : Addr} {vs : List V} {ds : List D} (ha : H0 a = some (.tup vs)) (r : Reps K H0 φ0 vs ds) : Wk K φ0 H0 (Itt K a) ds .free where
  goes := fun i d φ M H fr m _ hi => by
    obtain ⟨v, hv, rv⟩ := (r.fr fr).get hi
    have q : SqT K H a vs := SqT.of (fr.tup _ _ ha)
    refine ⟨⟨vs, v, q, hv⟩, fun x H' ⟨e, y⟩ => ?_⟩
    subst e
    have := y vs q
    rw [hv] at this
    cases this
    exact ⟨Fr.refl _ _, m, rv⟩
  stops := fun φ M H fr m _ => ⟨vs, SqT.of (fr.tup _ _ ha), by rw [r.len]; exact Nat.le_refl _⟩
theorem wk_str {K : PySem.W.Frag} {φ0 : List Addr} {H0 : Hp} {z : List Nat} : Wk K φ0 H0 (Its (sOf z)) (z.map fun c => .str [c]) .free where
  goes := fun i d φ M H fr m _ hi => by
    rw [List.getElem?_map] at hi
    cases hz : z[i]? with
    | none => rw [hz] at hi; cases hi
    | some c =>
      rw [hz] at hi
      cases hi
      have hlt : i < z.length := (List.getElem?_eq_some_iff.mp hz).1
      refine ⟨by show i < (sOf z).cps.size; simpa [sOf] using hlt, fun x H' ⟨e, c', hc, ex⟩ => ?_⟩
      subst e ex
      have : (sOf z).cps[i]? = some c := by simpa [sOf] using hz
      rw [this] at hc
      cases hc
      exact ⟨Fr.refl _ _, m, .str [c]⟩
  stops := fun φ M H fr m _ => by
    show (sOf z).cps.size ≤ (z.map _).length
    rw [List.length_map]
    simp [sOf]
theorem wk_rng {K : PySem.W.Frag} {φ0 : List Addr} {H0 : Hp} {a b : Int} : Wk K φ0 H0 (Itr a (b - a).toNat) (rng a b) .free where
  goes := fun i d φ M H fr m _ hi => by
    unfold rng at hi
    rw [List.getElem?_map] at hi
    cases hz : (List.range (b - a).toNat)[i]? with
    | none => rw [hz] at hi; cases hi
    | some k =>
      rw [hz] at hi
      cases hi
      obtain ⟨hlt, hk⟩ := List.getElem?_eq_some_iff.mp hz
      rw [List.length_range] at hlt
      rw [List.getElem_range] at hk
      subst hk
      refine ⟨hlt, fun x H' ⟨e, ex⟩ => ?_⟩
      subst e ex
      exact ⟨Fr.refl _ _, m, .int _⟩
  stops := fun φ M H fr m _ => by
    show (b - a).toNat ≤ (rng a b).length
    unfold rng
    rw [List.length_map, List.length_range]
    exact Nat.le_refl _
/-- a for's source: once it is told, its walk -/
def tiOf (K : PySem.W.Frag) (cv : Nat → Value) (W : WX) (t : Sl.Loc → MS → (List D → Hold → MS → Prop) → XQ → Prop) : TI := fun sv H R => ∃ φ σ M Qp Ep, RS K H φ sv σ ∧ RM K H φ M ∧ t σ M Qp Ep ∧
  (∀ φ' xs h M' H' J, Fr φ H φ' H' → RM K H' φ' M' → Qp xs h M' → Wk K φ' H' J xs h → R J H') ∧ XPost K cv φ H sv W Ep
/-- the source's wish: not a dict -/
def wSrc (O : Oracle) (k : ItK) (src : LA) : Sl.Loc → MS → (List D → Hold → MS → Prop) → XQ → Prop := fun σ M Q E => wA O src σ M (fun ds M1 => match walk k ds M1 with
  | some (xs, h) => Q xs h M1
  | none => False) E
variable {tg : Expr}
theorem dl_lst (ha : PE X a (tOf X.K cv W (wE O la))) : PI X tg a (tiOf X.K cv W (wSrc O .lst (.cons la .nil))) := ⟨fun pins s sv H R I ⟨φ, σ, M, Qp, Ep, rs, m, w, p, px⟩ => by
  unfold wSrc at w
  rw [wA] at w
  refine (pi_list ha).run pins s sv H R I (tOf.step rs m w px fun φ1 x d M1 H1 f1 rs1 m1 r1 px1 w1 => ?_)
  rw [wA] at w1
  cases r1 <;> try exact w1.elim
  rename_i p' n f
  have w1 : (match (match M1[n]? with | some (.lst ds) => some (ds, Hold.live n ds) | _ => none : Option (List D × Hold)) with | some (xs, h) => Qp xs h M1 | none => False) := w1
  cases hM : M1[n]? with
  | none => rw [hM] at w1; exact w1.elim
  | some o =>
    rw [hM] at w1
    cases o with
    | lst ds =>
      obtain ⟨vs, q, t⟩ := m1.sq hM f
      exact ⟨p', rfl, ⟨vs, q⟩, p φ1 _ _ M1 H1 _ f1 m1 w1 (wk_list f)⟩
    | _ => exact w1.elim⟩
theorem dl_tup (ha : PE X a (tOf X.K cv W (wE O la))) : PI X tg a (tiOf X.K cv W (wSrc O .tup (.cons la .nil))) := ⟨fun pins s sv H R I ⟨φ, σ, M, Qp, Ep, rs, m, w, p, px⟩ => by
  unfold wSrc at w
  rw [wA] at w
  refine (pi_tup ha).run pins s sv H R I (tOf.step rs m w px fun φ1 x d M1 H1 f1 rs1 m1 r1 px1 w1 => ?_)
  rw [wA] at w1
  cases r1 <;> try exact w1.elim
  rename_i p' vs ds h1 h2
  exact ⟨p', rfl, ⟨vs, SqT.of h1⟩, p φ1 _ _ M1 H1 _ f1 m1 w1 (wk_tup h1 h2)⟩⟩
theorem dl_str (ha : PE X a (tOf X.K cv W (wE O la))) : PI X tg a (tiOf X.K cv W (wSrc O .str (.cons la .nil))) := ⟨fun pins s sv H R I ⟨φ, σ, M, Qp, Ep, rs, m, w, p, px⟩ => by
  unfold wSrc at w
  rw [wA] at w
  refine (pi_str ha).run pins s sv H R I (tOf.step rs m w px fun φ1 x d M1 H1 f1 rs1 m1 r1 px1 w1 => ?_)
  rw [wA] at w1
  cases r1 <;> try exact w1.elim
  exact ⟨_, rfl, p φ1 _ _ M1 H1 _ f1 m1 w1 wk_str⟩⟩
theorem dl_rev {p' : Pos} (hg : Gl X "reversed") (hm : X.mg "reversed" = none) (ha : PA X [a] (taOf X.K cv W (wA O las))) (hs : starEach [a] X.env = [(false, eval a X.env)]) :
    PI X tg (.Call (.Name "reversed" p') [a] [] pos) (tiOf X.K cv W (wSrc O .rev las)) := ⟨fun pins s sv H R I ⟨φ, σ, M, Qp, Ep, rs, m, w, p, px⟩ => by
  unfold wSrc at w
  refine (pi_reversed hg hm ha hs).run pins s sv H R I (taOf.step rs m w px fun φ1 xs ds M1 H1 f1 rs1 m1 r1 px1 w1 => ?_)
  split at w1 <;> try exact w1.elim
  rename_i ys h hw
  have key : ∃ n es, ds = [.ref n] ∧ M1[n]? = some (.lst es) ∧ ys = es.reverse ∧ h = .live n es := by
    match ds, hw with
    | [.ref n], hw =>
      have hw : (match M1[n]? with | some (.lst ds) => some (ds.reverse, Hold.live n ds) | _ => none : Option (List D × Hold)) = some (ys, h) := hw
      cases hM : M1[n]? with
      | none => rw [hM] at hw; cases hw
      | some o =>
        rw [hM] at hw
        cases o <;> cases hw
        exact ⟨n, _, rfl, hM, rfl, rfl⟩
    | [], hw => cases hw
    | [.non], hw => cases hw
    | [.bool _], hw => cases hw
    | [.int _], hw => cases hw
    | [.str _], hw => cases hw
    | [.tup _], hw => cases hw
    | [.lv _], hw => cases hw
    | [.exc _ _], hw => cases hw
    | [.kl _], hw => cases hw
    | z :: _ :: _, hw => cases z <;> cases hw
  obtain ⟨n, es, rfl, hM, rfl, rfl⟩ := key
  obtain ⟨x, rfl, rx⟩ := one_of r1
  cases rx with
  | @ref q n f =>
    obtain ⟨vs, hq, t⟩ := m1.sq hM f
    refine ⟨q, vs, rfl, hq, ?_⟩
    rw [t.len]
    exact p φ1 _ _ M1 H1 _ f1 m1 w1 (wk_rev f)⟩
theorem dl_enumL {p' tpos : Pos} {elts : List Expr} {kk : Nat} (hg : Gl X "enumerate") (hm : X.mg "enumerate" = none) (ha : PA X [a] (taOf X.K cv W (wA O las))) (hs : starEach [a] X.env = [(false, eval a X.env)]) :
    PI X (.Tuple elts kk tpos) (.Call (.Name "enumerate" p') [a] [] pos) (tiOf X.K cv W (wSrc O .enumL las)) := ⟨fun pins s sv H R I ⟨φ, σ, M, Qp, Ep, rs, m, w, p, px⟩ => by
  unfold wSrc at w
  refine (pi_enum hg hm ha hs).run pins s sv H R I (taOf.step rs m w px fun φ1 xs ds M1 H1 f1 rs1 m1 r1 px1 w1 => ?_)
  split at w1 <;> try exact w1.elim
  rename_i ys h hw
  have key : ∃ n es, ds = [.ref n] ∧ M1[n]? = some (.lst es) ∧ ys = enumL 0 es ∧ h = .live n es := by
    match ds, hw with
    | [.ref n], hw =>
      have hw : (match M1[n]? with | some (.lst ds) => some (enumL 0 ds, Hold.live n ds) | _ => none : Option (List D × Hold)) = some (ys, h) := hw
      cases hM : M1[n]? with
      | none => rw [hM] at hw; cases hw
      | some o =>
        rw [hM] at hw
        cases o <;> cases hw
        exact ⟨n, _, rfl, hM, rfl, rfl⟩
    | [], hw => cases hw
    | [.non], hw => cases hw
    | [.bool _], hw => cases hw
    | [.int _], hw => cases hw
    | [.str _], hw => cases hw
    | [.tup _], hw => cases hw
    | [.lv _], hw => cases hw
    | [.exc _ _], hw => cases hw
    | [.kl _], hw => cases hw
    | z :: _ :: _, hw => cases z <;> cases hw
  obtain ⟨n, es, rfl, hM, rfl, rfl⟩ := key
  obtain ⟨x, rfl, rx⟩ := one_of r1
  cases rx with
  | @ref q n f =>
    obtain ⟨vs, hq, t⟩ := m1.sq hM f
    exact ⟨q, vs, rfl, hq, p φ1 _ _ M1 H1 _ f1 m1 w1 (wk_enum f)⟩⟩
theorem dl_rng1 {p' : Pos} (hg : Gl X "range") (hm : X.mg "range" = none) (ha : PA X [a] (taOf X.K cv W (wA O (.cons la .nil)))) (hs : starEach [a] X.env = [(false, eval a X.env)]) :
    PI X tg (.Call (.Name "range" p') [a] [] pos) (tiOf X.K cv W (wSrc O .range (.cons la .nil))) := ⟨fun pins s sv H R I ⟨φ, σ, M, Qp, Ep, rs, m, w, p, px⟩ => by
  unfold wSrc at w
  have w' : wA O (.cons la .nil) σ M (fun ds M1 => ∃ d, ds = [d] ∧ match walk .range [d] M1 with | some (xs, h) => Qp xs h M1 | none => False) Ep := by
    rw [wA]; rw [wA] at w
    have : (fun d M1 => wA O .nil σ M1 (fun ds M2 => (match walk .range (d :: ds) M2 with | some (xs, h) => Qp xs h M2 | none => False)) Ep) = (fun d M1 => wA O .nil σ M1 (fun ds M2 => ∃ d', d :: ds = [d'] ∧ match walk .range [d'] M2 with | some (xs, h) => Qp xs h M2 | none => False) Ep) := by
      funext d M1
      rw [wA, wA]
      exact propext ⟨fun h => ⟨d, rfl, h⟩, fun ⟨d', e, h⟩ => by cases e; exact h⟩
    rw [← this]
    exact w
  refine (pi_range1 hg hm ha hs).run pins s sv H R I (taOf.step rs m w' px fun φ1 xs ds M1 H1 f1 rs1 m1 r1 px1 w1 => ?_)
  obtain ⟨d, rfl, w1⟩ := w1
  obtain ⟨x, rfl, rx⟩ := one_of r1
  cases rx <;> try exact w1.elim
  rename_i b
  have w1 : (match (if -(2 ^ 60) ≤ b ∧ b ≤ 2 ^ 60 then some (rng 0 b, Hold.free) else none : Option (List D × Hold)) with | some (xs, h) => Qp xs h M1 | none => False) := w1
  by_cases c : -(2 ^ 60) ≤ b ∧ b ≤ 2 ^ 60
  · rw [if_pos c] at w1
    have wk := wk_rng (K := X.K) (φ0 := φ1) (H0 := H1) (a := 0) (b := b)
    rw [Int.sub_zero] at wk
    exact ⟨b, rfl, by omega, by omega, p φ1 _ _ M1 H1 _ f1 m1 w1 wk⟩
  · rw [if_neg c] at w1; exact w1.elim⟩
theorem dl_rng2 {p' : Pos} (hg : Gl X "range") (hm : X.mg "range" = none) (ha : PA X [a, b] (taOf X.K cv W (wA O (.cons la (.cons lb .nil))))) (hs : starEach [a, b] X.env = [(false, eval a X.env), (false, eval b X.env)]) (hs2 : starEach [b] X.env = [(false, eval b X.env)]) :
    PI X tg (.Call (.Name "range" p') [a, b] [] pos) (tiOf X.K cv W (wSrc O .range (.cons la (.cons lb .nil)))) := ⟨fun pins s sv H R I ⟨φ, σ, M, Qp, Ep, rs, m, w, p, px⟩ => by
  unfold wSrc at w
  have w' : wA O (.cons la (.cons lb .nil)) σ M (fun ds M1 => ∃ d e, ds = [d, e] ∧ match walk .range [d, e] M1 with | some (xs, h) => Qp xs h M1 | none => False) Ep := by
    rw [wA]; rw [wA] at w
    have : (fun d M1 => wA O (.cons lb .nil) σ M1 (fun ds M2 => (match walk .range (d :: ds) M2 with | some (xs, h) => Qp xs h M2 | none => False)) Ep) = (fun d M1 => wA O (.cons lb .nil) σ M1 (fun ds M2 => ∃ d' e', d :: ds = [d', e'] ∧ match walk .range [d', e'] M2 with | some (xs, h) => Qp xs h M2 | none => False) Ep) := by
      funext d M1
      rw [wA, wA]
      congr 1
      funext e M2
      rw [wA, wA]
      exact propext ⟨fun h => ⟨d, e, rfl, h⟩, fun ⟨d', e', q, h⟩ => by cases q; exact h⟩
    rw [← this]
    exact w
  refine (pi_range2 hg hm ha hs hs2).run pins s sv H R I (taOf.step rs m w' px fun φ1 xs ds M1 H1 f1 rs1 m1 r1 px1 w1 => ?_)
  obtain ⟨d, e, rfl, w1⟩ := w1
  obtain ⟨x, y, rfl, rx, ry⟩ := two_of r1
  cases rx <;> cases ry <;> try exact w1.elim
  rename_i i j
  have w1 : (match (if -(2 ^ 60) ≤ i ∧ i ≤ 2 ^ 60 ∧ -(2 ^ 60) ≤ j ∧ j ≤ 2 ^ 60 then some (rng i j, Hold.free) else none : Option (List D × Hold)) with | some (xs, h) => Qp xs h M1 | none => False) := w1
  by_cases c : -(2 ^ 60) ≤ i ∧ i ≤ 2 ^ 60 ∧ -(2 ^ 60) ≤ j ∧ j ≤ 2 ^ 60
  · rw [if_pos c] at w1
    exact ⟨i, j, rfl, by omega, p φ1 _ _ M1 H1 _ f1 m1 w1 wk_rng⟩
  · rw [if_neg c] at w1; exact w1.elim⟩
end
end Sl
/-! S6: targets, comprehensions. -/
namespace Sl
open PySem PySem.Spec PyProof.Rows L2
/-! ### slots forgotten -/
theorem wipe_get : ∀ (vs : List Nat) (sv : St) (j : Nat), (L2.wipe sv vs)[j]? = if j ∈ vs then (if j < sv.length then some none else none) else sv[j]?
  | [], sv, j => by simp [L2.wipe]
  | v :: vs, sv, j => by
    show (List.set (L2.wipe sv vs) v none)[j]? = _
    have ih := wipe_get vs sv j
    by_cases e : v = j
    · subst e
      rw [if_pos (by simp)]
      by_cases hl : v < sv.length
      · rw [List.getElem?_set_self (by rw [wipe_length]; exact hl), if_pos hl]
      · rw [List.getElem?_eq_none (by rw [List.length_set, wipe_length]; omega), if_neg hl]
    · rw [List.getElem?_set_ne e, ih]
      have : (j ∈ v :: vs) ↔ j ∈ vs := by simp [Ne.symm e, show ¬ j = v from fun z => e z.symm]
      by_cases hj : j ∈ vs
      · rw [if_pos hj, if_pos (this.mpr hj)]
      · rw [if_neg hj, if_neg (fun z => hj (this.mp z))]
theorem wipe_same {vs : List Nat} {sv sw : St} (hl : sv.length = sw.length) (h : ∀ j, j ∉ vs → sv[j]? = sw[j]?) : L2.wipe sv vs = L2.wipe sw vs := by
  apply List.ext_getElem?
  intro j
  rw [wipe_get, wipe_get, hl]
  by_cases hj : j ∈ vs
  · rw [if_pos hj, if_pos hj]
  · rw [if_neg hj, if_neg hj, h j hj]
theorem wipe_wipe (sv : St) (vs : List Nat) : L2.wipe (L2.wipe sv vs) vs = L2.wipe sv vs := wipe_same (wipe_length _ _) fun j hj => by rw [wipe_get, if_neg hj]

/-! ### targets -/
/-- the slots that a target sets -/
def LT.slots : LT → List Nat
  | .name i => [i]
  | .tup is => is
variable {K : PySem.W.Frag}
structure TgOk (K : PySem.W.Frag) (g : TG) (t : LT) : Prop where
  run : ∀ (φ : List Addr) (M : MS) (sv : St) (σ σ' : Sl.Loc) (H : Hp) (x : V) (d : D) (Q : St → Hp → Prop), RS K H φ sv σ → Rep K H φ x d → asgT t d σ = some σ' →
    (∀ sv', RS K H φ sv' σ' → sv'.length = sv.length → (∀ j, j ∉ t.slots → sv'[j]? = sv[j]?) → Q sv' H) → g x sv H Q
theorem tg_name {i : Nat} : TgOk K (gName i) (.name i) := ⟨fun φ M sv σ σ' H x d Q rs r h k => by
  have h : some (σ.set i (some d)) = some σ' := h
  cases h
  refine k _ (rs.set r) (by rw [List.length_set]) fun j hj => ?_
  rw [List.getElem?_set_ne]
  intro e
  exact hj (by rw [e]; exact List.mem_singleton.mpr rfl)⟩
/-- a chain of names -/
def gNames : List Nat → TGs
  | [] => gNil
  | i :: is => gCons (gName i) (gNames is)
theorem names_run : ∀ (is : List Nat) (φ : List Addr) (sv : St) (σ σ' : Sl.Loc) (H : Hp) (xs : List V) (ds : List D) (Q : St → Hp → Prop), RS K H φ sv σ → Reps K H φ xs ds → setAll σ is ds = some σ' →
    (∀ sv', RS K H φ sv' σ' → sv'.length = sv.length → (∀ j, j ∉ is → sv'[j]? = sv[j]?) → Q sv' H) → gNames is xs sv H Q
  | [], φ, sv, σ, σ', H, xs, ds, Q, rs, r, h, k => by
    cases r with
    | nil =>
      have h : some σ = some σ' := h
      cases h
      exact ⟨rfl, k sv rs rfl fun _ _ => rfl⟩
    | cons _ _ => cases h
  | i :: is, φ, sv, σ, σ', H, xs, ds, Q, rs, r, h, k => by
    cases r with
    | nil => cases h
    | cons r0 rt =>
      have h : setAll (σ.set i (some _)) is _ = some σ' := h
      refine ⟨_, _, rfl, names_run is φ _ _ σ' H _ _ Q (rs.set r0) rt h fun sv' h1 h2 h3 => k sv' h1 (by rw [h2, List.length_set]) fun j hj => ?_⟩
      rw [h3 j (fun z => hj (List.mem_cons_of_mem _ z)), List.getElem?_set_ne]
      intro e
      exact hj (by rw [e]; exact List.mem_cons_self)
theorem setAll_len : ∀ (is : List Nat) (ds : List D) (σ σ' : Sl.Loc), setAll σ is ds = some σ' → ds.length = is.length
  | [], [], _, _, _ => rfl
  | [], _ :: _, _, _, h => by cases h
  | _ :: _, [], _, _, h => by cases h
  | i :: is, d :: ds, σ, σ', h => by
    have h : setAll (σ.set i (some d)) is ds = some σ' := h
    rw [List.length_cons, List.length_cons, setAll_len is ds _ σ' h]
theorem tg_tup {is : List Nat} : TgOk K (gTup K is.length (gNames is)) (.tup is) := ⟨fun φ M sv σ σ' H x d Q rs r h k => by
  cases r <;> try (cases h; done)
  rename_i a xs ds ha t
  have h : setAll σ is ds = some σ' := h
  exact ⟨a, xs, rfl, SqT.of ha, by rw [t.len]; exact setAll_len is ds σ σ' h, names_run is φ sv σ σ' H xs ds Q rs t h k⟩⟩

/-! ### an object that the store does not know yet changes -/
/-- tuples and what is locked stay -/
structure Keeps (H H' : Hp) : Prop where
  tup : ∀ a xs, H a = some (.tup xs) → H' a = some (.tup xs)
  frz : ∀ a o u, H a = some (.frz o u) → H' a = some (.frz o u)
theorem Keeps.refl (H : Hp) : Keeps H H := ⟨fun _ _ h => h, fun _ _ _ h => h⟩
mutual
theorem Rep.tups {φ φ' : List Addr} {H H' : Hp} (hp : φ <+: φ') (ht : Keeps H H') : ∀ {v : V} {d : D}, Rep K H φ v d → Rep K H' φ' v d
  | _, _, .non => .non
  | _, _, .bl b => .bl b
  | _, _, .int i => .int i
  | _, _, .str s => .str s
  | _, _, .tup h r => .tup (ht.tup _ _ h) (Reps.tups hp ht r)
  | _, _, .ref h => .ref (pre_get hp h)
  | _, _, .kl h r => .kl (h.elim (fun ⟨o, q⟩ => .inl ⟨o, ht.frz _ _ _ q⟩) .inr) (Reps.tups hp ht r)
  | _, _, .exc a c => .exc a c
theorem Reps.tups {φ φ' : List Addr} {H H' : Hp} (hp : φ <+: φ') (ht : Keeps H H') : ∀ {vs : List V} {ds : List D}, Reps K H φ vs ds → Reps K H' φ' vs ds
  | _, _, .nil => .nil
  | _, _, .cons r t => .cons (Rep.tups hp ht r) (Reps.tups hp ht t)
end
theorem RKV.tups {φ φ' : List Addr} {H H' : Hp} (hp : φ <+: φ') (ht : Keeps H H') {vs : List (Key × V)} {ds : List (Int × D)} (h : RKV K H φ vs ds) : RKV K H' φ' vs ds := by
  induction h with
  | nil => exact .nil
  | cons r _ ih => exact .cons (r.tups hp ht) ih
theorem RFS.tups {K : PySem.W.Frag} {φ φ' : List Addr} {H H' : Hp} (hp : φ <+: φ') (ht : Keeps H H') {gs : List (Str × V)} {fs : List (Nat × D)} (h : RFS K H φ gs fs) : RFS K H' φ' gs fs := by
  induction h with
  | nil => exact .nil
  | cons r _ ih => exact .cons (r.tups hp ht) ih
theorem rmo_tups {K : PySem.W.Frag} {φ φ' : List Addr} {H H' : Hp} (hp : φ <+: φ') (ht : Keeps H H') {a : Addr} {o : MO} (h : RMO K H φ a o) (e : H' a = H a) : RMO K H' φ' a o := by
  cases o with
  | lst ds => obtain ⟨vs, q, r⟩ := h; exact ⟨vs, e.trans q, r.tups hp ht⟩
  | dict kvs => obtain ⟨vs, q, r⟩ := h; exact ⟨vs, e.trans q, r.tups hp ht⟩
  | ldict kvs => obtain ⟨o, vs, q, r⟩ := h; exact ⟨o, vs, e.trans q, r.tups hp ht⟩
  | inst c fs => obtain ⟨C, dx, gs, q, cc, r⟩ := h; exact ⟨C, dx, gs, e.trans q, cc, r.tups hp ht⟩
section
variable {K : PySem.W.Frag} {φ : List Addr} {H : Hp} {M : MS} {p : Addr} {xs : List V} {u : HO}
theorem upd_tups (hp : H p = some (.lst xs)) : Keeps H (L2.upd H p u) := by
  refine ⟨fun a ys h => ?_, fun a o w h => ?_⟩ <;> rw [upd_ne (fun z => by subst z; rw [hp] at h; cases h)] <;> exact h
theorem RM.off (m : RM K H φ M) (hn : p ∉ φ) (hp : H p = some (.lst xs)) : RM K (L2.upd H p u) φ M :=
  ⟨m.len, m.nd, fun n o a e1 e2 => rmo_tups (List.prefix_refl _) (upd_tups hp) (m.at_ n o a e1 e2) (upd_ne (fun z => hn (by rw [← z]; exact mem_of_get e2)))⟩
/-- .. and comes to be known -/
theorem RM.add {ds : List D} (m : RM K H φ M) (hn : p ∉ φ) (hp : H p = some (.lst xs)) (r : Reps K H φ xs ds) : RM K H (φ ++ [p]) (M ++ [.lst ds]) where
  len := by rw [List.length_append, List.length_append, m.len]; rfl
  nd := nd_snoc1 m.nd hn
  at_ := fun n o a e1 e2 => by
    have kl := m.len
    rcases app_get e2 with k2 | ⟨k2, p2⟩
    · have l2 := (List.getElem?_eq_some_iff.mp k2).1
      rw [List.getElem?_append_left (by omega)] at e1
      exact rmo_tups (List.prefix_append _ _) (Keeps.refl _) (m.at_ n o a e1 k2) rfl
    · rw [k2, kl, List.getElem?_append_right (Nat.le_refl _), Nat.sub_self] at e1
      cases e1
      rw [p2]
      exact ⟨xs, hp, r.tups (List.prefix_append _ _) (Keeps.refl _)⟩
theorem Fr.mutD {φ0 : List Addr} {H0 : Hp} (f : Fr φ0 H0 φ H) (hp : H0 p = none) : Fr φ0 H0 φ (L2.upd H p u) where
  pre := f.pre
  keep := fun a o h n => by rw [upd_ne (ne_of_none h hp)]; exact f.keep a o h n
  tup := fun a ys h => by rw [upd_ne (ne_of_none h hp)]; exact f.tup a ys h
  frz := fun a o w h => by rw [upd_ne (ne_of_none h hp)]; exact f.frz a o w h
  new := f.new
  trk := fun a h => f.trk a (upd_trk h)
theorem Fr.addD {φ0 : List Addr} {H0 : Hp} (f : Fr φ0 H0 φ H) (hp : H0 p = none) : Fr φ0 H0 (φ ++ [p]) H where
  pre := f.pre.trans (List.prefix_append _ _)
  keep := f.keep
  tup := f.tup
  frz := f.frz
  new := fun a h n => by
    rcases List.mem_append.mp h with h | h
    · exact f.new a h n
    · rw [List.mem_singleton.mp h]; exact hp
  trk := f.trk
theorem Fr.off {φ0 : List Addr} {H0 : Hp} (f : Fr φ0 H0 φ H) (h0 : H0 p = some (.lst xs)) (hn : p ∉ φ0) : p ∉ φ := fun z => by
  have := f.new p z hn
  rw [h0] at this
  cases this

/-! ### comprehensions -/
/-- within a comprehension nothing is raised -/
abbrev W0 : WX := fun _ _ _ _ => False
theorem xpost0 {cv : Nat → Value} {sv : St} {φ : List Addr} {H : Hp} : XPost K cv φ H sv W0 (fun _ _ => False) := fun _ _ _ _ _ _ h => h
end
section
variable {X : Cx} {cv : Nat → Value} {W : WX} {O : Oracle} {pos : Pos}
theorem comp_read {K : PySem.W.Frag} {k : ItK} {src : LA} {t : LT} {lc le : LE} {g : TG} {vs : List Nat} (tk : TgOk K g t) (hsl : ∀ i ∈ t.slots, i ∈ vs) :
    ∀ sv H Q, tOf K cv W (wE O (.comp vs k src t lc le)) sv H Q → tLc (tiOf K cv W (wSrc O k src)) g (ttOf K cv W0 (wE O lc)) (tOf K cv W0 (wE O le)) vs sv H Q := by
  intro sv H Q ⟨φ, σ, M, Qp, Ep, rs, m, w, p, px⟩
  rw [wE] at w
  refine ⟨φ, σ, M, fun xs h M1 => wTurns h t (wipe σ vs) (fun σ' M' Q' => wE O lc σ' M' Q' fun _ _ => False) (fun σ' M' Q' => wE O le σ' M' Q' fun _ _ => False) Qp xs [] (h.start M1), Ep, rs, m, w, fun φ1 xs h M1 H1 J f1 m1 w1 wk => ?_, px⟩
  dsimp only at w1
  rw [wk.st] at w1
  intro D hD
  have rs1 := rs.fr f1
  refine ⟨fun i mm Hn => mm = xs.length - i ∧ ∃ φ2 M2 ys acc, i ≤ xs.length ∧ Fr φ1 H1 φ2 Hn ∧ RM K Hn φ2 M2 ∧ Hn D = some (.lst acc) ∧ D ∉ φ2 ∧ Reps K Hn φ2 acc ys ∧
    wTurns h t (wipe σ vs) (fun σ' M' Q' => wE O lc σ' M' Q' fun _ _ => False) (fun σ' M' Q' => wE O le σ' M' Q' fun _ _ => False) Qp (xs.drop i) ys M2, ⟨xs.length, by omega, φ1, M1, [], [], Nat.zero_le _, (Fr.refl _ _).mutD hD, ?_, upd_same, ?_, .nil, w1⟩, ?_⟩
  · have hn := m1.out hD
    exact ⟨m1.len, m1.nd, fun n o a e1 e2 => (m1.at_ n o a e1 e2).at (⟨List.prefix_refl _, fun a o h _ => by rw [upd_ne (ne_of_none h hD)]; exact h, fun a o h => by rw [upd_ne (ne_of_none h hD)]; exact h,
      fun a o u h => by rw [upd_ne (ne_of_none h hD)]; exact h, fun a h n => absurd h n, fun a h => upd_trk h⟩) fun u q => by rw [upd_ne (ne_of_none q hD)]; exact q⟩
  · exact m1.out hD
  · rintro i mm Hn ⟨rfl, φ2, M2, ys, acc, hle, f2, m2, hDn, hnD, ra, wt⟩
    by_cases hlt : i < xs.length
    · refine .inr ?_
      have hd : xs[i]? = some xs[i] := List.getElem?_eq_getElem hlt
      rw [List.drop_eq_getElem_cons hlt, wTurns] at wt
      obtain ⟨hok, wt⟩ := wt
      obtain ⟨hgo, hy⟩ := wk.goes i _ φ2 M2 Hn f2 m2 hok hd
      refine ⟨hgo, fun H' => ∃ φ3 M3 ys' acc', Fr φ1 H1 φ3 H' ∧ RM K H' φ3 M3 ∧ H' D = some (.lst acc') ∧ D ∉ φ3 ∧ Reps K H' φ3 acc' ys' ∧
        wTurns h t (wipe σ vs) (fun σ' M' Q' => wE O lc σ' M' Q' fun _ _ => False) (fun σ' M' Q' => wE O le σ' M' Q' fun _ _ => False) Qp (xs.drop (i + 1)) ys' M3, fun H' ⟨φ3, M3, ys', acc', q1, q2, q3, q4, q5, q6⟩ => ⟨xs.length - (i + 1), by omega, rfl, φ3, M3, ys', acc', hlt, q1, q2, q3, q4, q5, q6⟩, fun x H' hyl => ?_⟩
      obtain ⟨fy, my, ry⟩ := hy x H' hyl
      cases ha : asgT t xs[i] (wipe σ vs) with
      | none => rw [ha] at wt; exact wt.elim
      | some σ' =>
        rw [ha] at wt
        refine tk.run φ2 M2 _ _ σ' H' x _ _ (((rs1.fr f2).fr fy).wipe vs) ry ha fun sv' rs' hl' hj' => ⟨?_, ?_⟩
        · rw [← wipe_wipe sv vs]
          refine wipe_same hl' fun j hj => hj' j fun z => hj ?_
          exact hsl j z
        · have hDy := fy.keep D _ hDn hnD
          refine ttOf.step (σ := σ') rs' my wt xpost0 fun φ3 d M3 H3 f3 rs3 m3 px3 w3 => ?_
          have hD3 := f3.keep D _ hDy hnD
          have hn3 := f3.off hDy hnD
          have fr3 := (f2.trans fy).trans f3
          cases d <;> first | exact w3.elim | skip
          rename_i b
          rw [brn_bool] at w3
          refine ⟨b, rfl, ?_⟩
          cases b with
          | true =>
            rw [if_pos rfl] at w3 ⊢
            refine tOf.step rs3 m3 w3 xpost0 fun φ4 y d M4 H4 f4 rs4 m4 r4 px4 w4 => ?_
            have hD4 := f4.keep D _ hD3 hn3
            have hn4 := f4.off hD3 hn3
            refine ⟨acc, hD4, by rw [ra.len]; exact szl w4.1, φ4, M4, ys ++ [d], acc ++ [y], (fr3.trans f4).mutD hD, m4.off hn4 hD4, upd_same, hn4, ?_, w4.2⟩
            exact (((ra.fr fy).fr f3).fr f4 |>.app (.cons r4 .nil)).tups (List.prefix_refl _) (upd_tups hD4)
          | false =>
            rw [if_neg Bool.false_ne_true] at w3 ⊢
            exact ⟨φ3, M3, ys, acc, fr3, m3, hD3, hn3, (ra.fr fy).fr f3, w3⟩
    · refine .inl ?_
      have e : i = xs.length := by omega
      subst e
      rw [List.drop_length, wTurns] at wt
      obtain ⟨hok, wt⟩ := wt
      rw [wk.fi] at wt
      refine ⟨wk.stops φ2 M2 Hn f2 m2 hok, ?_⟩
      have f0 : Fr φ H φ2 Hn := f1.trans f2
      have hD0 : H D = none := f1.trk D hD
      exact p.ok (φ2 ++ [D]) _ _ (M2 ++ [.lst ys]) Hn (f0.addD hD0) (m2.add hnD hDn ra) (.ref (by rw [← m2.len, List.getElem?_append_right (Nat.le_refl _), Nat.sub_self]; rfl)) wt
theorem de_comp {elt tg iter : Expr} {ifs : List Expr} {scope : Scope} {own : List (Str × Nat)} {k : ItK} {src : LA} {t : LT} {lc le : LE} {g : TG} (hc : X.calm = true) (hN : X.N.Nodup) (hi : PI X tg iter (tiOf X.K cv W (wSrc O k src)))
    (ok : BlkOk X.N X.env.scope scope own) (tk : TgOk X.K g t) (hsl : ∀ i ∈ t.slots, i ∈ own.map (·.2))
    (hg : ∀ (s : Shared) (H : Hp) (C : Addr) (cl : List (Str × Addr)) (fp : List Addr), PG (X.blk s H scope (compEnvC scope cl C X.env) fp) tg g)
    (ht : ∀ (s : Shared) (H : Hp) (C : Addr) (cl : List (Str × Addr)) (fp : List Addr), PTs (X.blk s H scope (compEnvC scope cl C X.env) fp) ifs (ttOf X.K cv W0 (wE O lc)))
    (he : ∀ (s : Shared) (H : Hp) (C : Addr) (cl : List (Str × Addr)) (fp : List Addr), PE (X.blk s H scope (compEnvC scope cl C X.env) fp) elt (tOf X.K cv W0 (wE O le)))
    (hs : ∀ x, foldedSetIterable iter X.env x = pure x) :
    PE X (.ListComp elt [⟨tg, iter, ifs, 0⟩] scope pos) (tOf X.K cv W (wE O (.comp (own.map (·.2)) k src t lc le))) :=
  PE.imp (pe_lc hc hN hi ok hg ht he hs) (comp_read tk hsl)
end
end Sl
/-! S7: statements. -/
namespace Sl
open PySem PySem.Spec PyProof.Rows L2
abbrev Ends1 := Sl.Ends
structure EPost (K : PySem.W.Frag) (cv : Nat → Value) (φ : List Addr) (H : Hp) (D : L2.Ends) (W : WX) (En : Ends1) : Prop where
  nx : ∀ φ' σ' M' sv' H', Fr φ H φ' H' → RS K H' φ' sv' σ' → RM K H' φ' M' → En.nx σ' M' → D.nx sv' H'
  rt : ∀ φ' v d M' H', Fr φ H φ' H' → RM K H' φ' M' → Rep K H' φ' v d → En.rt d M' → D.rt v H'
  ex : ∀ φ' c σ' M' sv' H', Fr φ H φ' H' → RS K H' φ' sv' σ' → RM K H' φ' M' → En.ex c σ' M' → W (cv c) none sv' H'
theorem EPost.fr {K : PySem.W.Frag} {cv : Nat → Value} {φ φ1 : List Addr} {H H1 : Hp} {D : L2.Ends} {W : WX} {En : Ends1} (f : Fr φ H φ1 H1) (p : EPost K cv φ H D W En) : EPost K cv φ1 H1 D W En :=
  ⟨fun φ' σ' M' sv' H' f' => p.nx φ' σ' M' sv' H' (f.trans f'), fun φ' v d M' H' f' => p.rt φ' v d M' H' (f.trans f'), fun φ' c σ' M' sv' H' f' => p.ex φ' c σ' M' sv' H' (f.trans f')⟩
/-- the expression's error -/
theorem EPost.x {K : PySem.W.Frag} {cv : Nat → Value} {φ : List Addr} {H : Hp} {D : L2.Ends} {W : WX} {En : Ends1} {sv : St} {σ : Sl.Loc} (p : EPost K cv φ H D W En) (rs : RS K H φ sv σ) : XPost K cv φ H sv W fun c M' => En.ex c σ M' :=
  fun φ' c M' H' f m h => p.ex φ' c σ M' sv H' f (rs.fr f) m h
def tsOf (K : PySem.W.Frag) (cv : Nat → Value) (W : WX) (t : Sl.Loc → MS → Ends1 → Prop) : TS := fun D sv H => ∃ φ σ M En, RS K H φ sv σ ∧ RM K H φ M ∧ t σ M En ∧ EPost K cv φ H D W En
section
variable {X : Cx} {cv : Nat → Value} {W : WX} {O : Oracle} {a b c e : Expr} {la lb lc : LE} {ls lt : LS} {pos : Pos} {st : Stmt} {sts : List Stmt}
theorem PSt.imp {t t' : TS} (h : PS X st t) (hi : ∀ D sv H, t' D sv H → t D sv H) : PS X st t' := ⟨fun pins s sv H D I q => h.run pins s sv H D I (hi D sv H q)⟩
theorem PSst.imp {t t' : TS} (h : PSs X sts t) (hi : ∀ D sv H, t' D sv H → t D sv H) : PSs X sts t' := ⟨fun pins s sv H D I q => h.run pins s sv H D I (hi D sv H q)⟩
theorem db_nil : PSs X [] (tsOf X.K cv W (wS O .skip)) := PSst.imp pss_nil fun D sv H ⟨φ, σ, M, En, rs, m, w, p⟩ => by
  rw [wS] at w
  exact p.nx φ σ M sv H (Fr.refl _ _) rs m w
theorem db_cons (h1 : PS X st (tsOf X.K cv W (wS O ls))) (h2 : PSs X sts (tsOf X.K cv W (wS O lt))) : PSs X (st :: sts) (tsOf X.K cv W (wS O (.seq ls lt))) := PSst.imp (pss_cons h1 h2) fun D sv H ⟨φ, σ, M, En, rs, m, w, p⟩ => by
  rw [wS] at w
  exact ⟨φ, σ, M, _, rs, m, w, ⟨fun φ' σ' M' sv' H' f rs' m' w' => ⟨φ', σ', M', En, rs', m', w', p.fr f⟩, p.rt, p.ex⟩⟩
theorem db_one (h1 : PS X st (tsOf X.K cv W (wS O ls))) : PSs X [st] (tsOf X.K cv W (wS O ls)) := pss_one h1
theorem ds_asg {te : TE} {g : TG} {t : LT} (rule : PS X st (tAsg te g)) (hi : ∀ sv H Q, tOf X.K cv W (wE O la) sv H Q → te sv H Q) (tk : TgOk X.K g t) : PS X st (tsOf X.K cv W (wS O (.asg t la))) := PSt.imp rule fun D sv H ⟨φ, σ, M, En, rs, m, w, p⟩ => by
  rw [wS] at w
  refine hi sv H _ (tOf.step rs m w (p.x rs) fun φ1 v d M1 H1 f1 rs1 m1 r1 px1 w1 => ?_)
  cases ha : asgT t d σ with
  | none => rw [ha] at w1; exact w1.elim
  | some σ' =>
    rw [ha] at w1
    exact tk.run φ1 M1 sv σ σ' H1 v d _ rs1 r1 ha fun sv' rs' _ _ => p.nx φ1 σ' M1 sv' H1 f1 rs' m1 w1
theorem ds_expr (he : PE X e (tOf X.K cv W (wE O la))) (hs : swapsWith e none pos.line X.env = pure false) : PS X (.Expr e pos) (tsOf X.K cv W (wS O (.expr la))) := PSt.imp (ps_expr he hs) fun D sv H ⟨φ, σ, M, En, rs, m, w, p⟩ => by
  rw [wS] at w
  exact tOf.step rs m w (p.x rs) fun φ1 v d M1 H1 f1 rs1 m1 r1 px1 w1 => p.nx φ1 σ M1 sv H1 f1 rs1 m1 w1
theorem ds_ret (he : PE X e (tOf X.K cv W (wE O la))) : PS X (.Return (some e) pos) (tsOf X.K cv W (wS O (.ret la))) := PSt.imp (ps_ret he) fun D sv H ⟨φ, σ, M, En, rs, m, w, p⟩ => by
  rw [wS] at w
  exact tOf.step rs m w (p.x rs) fun φ1 v d M1 H1 f1 rs1 m1 r1 px1 w1 => p.rt φ1 v d M1 H1 f1 m1 r1 w1
theorem ds_retN : PS X (.Return none pos) (tsOf X.K cv W (wS O .retN)) := PSt.imp ps_retN fun D sv H ⟨φ, σ, M, En, rs, m, w, p⟩ => by
  rw [wS] at w
  exact p.rt φ _ _ M H (Fr.refl _ _) m .non w
theorem ds_ife {as bs : List Stmt} (hc : PT X c (ttOf X.K cv W (wE O lc))) (ha : PSs X as (tsOf X.K cv W (wS O ls))) (hb : PSs X bs (tsOf X.K cv W (wS O lt))) : PS X (.If c as bs pos) (tsOf X.K cv W (wS O (.ife lc ls lt))) :=
  PSt.imp (ps_if hc ha hb) fun D sv H ⟨φ, σ, M, En, rs, m, w, p⟩ => by
    rw [wS] at w
    refine ttOf.step rs m w (p.x rs) fun φ1 d M1 H1 f1 rs1 m1 px1 w1 => ?_
    cases d <;> first | exact w1.elim | skip
    rename_i k
    rw [brn_bool] at w1
    refine ⟨k, rfl, ?_⟩
    cases k with
    | true =>
      rw [if_pos rfl] at w1 ⊢
      exact ⟨φ1, σ, M1, En, rs1, m1, w1, p.fr f1⟩
    | false =>
      rw [if_neg Bool.false_ne_true] at w1 ⊢
      exact ⟨φ1, σ, M1, En, rs1, m1, w1, p.fr f1⟩
theorem ds_whl {body : List Stmt} (hp : PassesOwn (model X.prog X.w) X.A X.env X.xe) (hc : PT X c (ttOf X.K cv W (wE O lc))) (hb : PSs X body (tsOf X.K cv W (wS O ls))) : PS X (.While c body [] pos) (tsOf X.K cv W (wS O (.whl lc ls))) :=
  PSt.imp (ps_while hp hc hb) fun D sv H ⟨φ, σ, M, En, rs, m, w, p⟩ => by
    rw [wS] at w
    obtain ⟨n, w⟩ := w
    refine ⟨fun k sv1 H1 => ∃ φ1 σ1 M1, RS X.K H1 φ1 sv1 σ1 ∧ RM X.K H1 φ1 M1 ∧ Fr φ H φ1 H1 ∧ wLoop (fun σ' M' Q' => wE O lc σ' M' Q' fun x M'' => En.ex x σ' M'') (wS O ls) En k σ1 M1, ⟨n, φ, σ, M, rs, m, Fr.refl _ _, w⟩, ?_⟩
    rintro k sv1 H1 ⟨φ1, σ1, M1, rs1, m1, f1, w1⟩
    cases k with
    | zero => exact w1.elim
    | succ k =>
      rw [wLoop] at w1
      refine ttOf.step rs1 m1 w1 ((p.fr f1).x rs1) fun φ2 d M2 H2 f2 rs2 m2 px2 w2 => ?_
      cases d <;> first | exact w2.elim | skip
      rename_i z
      rw [brn_bool] at w2
      refine ⟨z, rfl, ?_⟩
      cases z with
      | true =>
        rw [if_pos rfl] at w2 ⊢
        refine ⟨fun sv' H' => ∃ φ1 σ1 M1, RS X.K H' φ1 sv' σ1 ∧ RM X.K H' φ1 M1 ∧ Fr φ H φ1 H' ∧ wLoop (fun σ' M' Q' => wE O lc σ' M' Q' fun x M'' => En.ex x σ' M'') (wS O ls) En k σ1 M1, fun sv' H' q => ⟨k, Nat.lt_succ_self _, q⟩, ?_⟩
        have f12 := f1.trans f2
        exact ⟨φ2, σ1, M2, _, rs2, m2, w2, ⟨fun φ' σ' M' sv' H' f' rs' m' w' => ⟨φ', σ', M', rs', m', f12.trans f', w'⟩, (p.fr f12).rt, (p.fr f12).ex⟩⟩
      | false =>
        rw [if_neg Bool.false_ne_true] at w2 ⊢
        exact p.nx φ2 σ1 M2 sv1 H2 (f1.trans f2) rs2 m2 w2
theorem ds_fr {tg iter : Expr} {body : List Stmt} {k : ItK} {src : LA} {t : LT} {g : TG} (hp : PassesOwn (model X.prog X.w) X.A X.env X.xe) (hc : X.calm = true) (hi : PI X tg iter (tiOf X.K cv W (wSrc O k src))) (hg : PG X tg g) (tk : TgOk X.K g t)
    (hb : PSs X body (tsOf X.K cv W (wS O ls))) (hs : ∀ x, foldedSetIterable iter X.env x = pure x) : PS X (.For tg iter body [] pos) (tsOf X.K cv W (wS O (.fr t k src ls))) :=
  PSt.imp (ps_for hp hc hi hg hb hs) fun D sv H ⟨φ, σ, M, En, rs, m, w, p⟩ => by
    rw [wS] at w
    refine ⟨φ, σ, M, fun xs h M1 => wFor h t (wS O ls) En xs σ (h.start M1), _, rs, m, w, fun φ1 xs h M1 H1 J f1 m1 w1 wk => ?_, p.x rs⟩
    dsimp only at w1
    rw [wk.st] at w1
    refine ⟨fun i mm sv2 H2 => mm = xs.length - i ∧ ∃ φ2 σ2 M2, i ≤ xs.length ∧ Fr φ1 H1 φ2 H2 ∧ RS X.K H2 φ2 sv2 σ2 ∧ RM X.K H2 φ2 M2 ∧ wFor h t (wS O ls) En (xs.drop i) σ2 M2, ⟨xs.length, by omega, φ1, σ, M1, Nat.zero_le _, Fr.refl _ _, rs.fr f1, m1, w1⟩, ?_⟩
    rintro i mm sv2 H2 ⟨rfl, φ2, σ2, M2, hle, f2, rs2, m2, wt⟩
    have f12 := f1.trans f2
    by_cases hlt : i < xs.length
    · refine .inr ?_
      have hd : xs[i]? = some xs[i] := List.getElem?_eq_getElem hlt
      rw [List.drop_eq_getElem_cons hlt, wFor] at wt
      obtain ⟨hok, wt⟩ := wt
      obtain ⟨hgo, hy⟩ := wk.goes i _ φ2 M2 H2 f2 m2 hok hd
      refine ⟨hgo, fun sv3 H3 => ∃ φ3 σ3 M3, Fr φ1 H1 φ3 H3 ∧ RS X.K H3 φ3 sv3 σ3 ∧ RM X.K H3 φ3 M3 ∧ wFor h t (wS O ls) En (xs.drop (i + 1)) σ3 M3, fun sv3 H3 ⟨φ3, σ3, M3, q1, q2, q3, q4⟩ => ⟨xs.length - (i + 1), by omega, rfl, φ3, σ3, M3, hlt, q1, q2, q3, q4⟩, fun x H' hyl => ?_⟩
      obtain ⟨fy, my, ry⟩ := hy x H' hyl
      cases ha : asgT t xs[i] σ2 with
      | none => rw [ha] at wt; exact wt.elim
      | some σ' =>
        rw [ha] at wt
        refine tk.run φ2 M2 _ _ σ' H' x _ _ (rs2.fr fy) ry ha fun sv' rs' _ _ => ?_
        have f3 := f12.trans fy
        refine ⟨φ2, σ', M2, _, rs', my, wt, ⟨fun φ4 σ4 M4 sv4 H4 f4 rs4 m4 w4 => ⟨φ4, σ4, M4, (f2.trans fy).trans f4, rs4, m4, w4⟩, fun φ4 v d M4 H4 f4 m4 r4 w4 => ?_, fun φ4 c σ4 M4 sv4 H4 f4 rs4 m4 w4 => ?_⟩⟩
        · have w5 := w4.2
          rw [wk.fi] at w5
          exact p.rt φ4 v d M4 H4 (f3.trans f4) m4 r4 w5
        · have w5 := w4.2
          rw [wk.fi] at w5
          exact p.ex φ4 c σ4 M4 sv4 H4 (f3.trans f4) rs4 m4 w5
    · refine .inl ?_
      have e : i = xs.length := by omega
      subst e
      rw [List.drop_length, wFor] at wt
      obtain ⟨hok, wt⟩ := wt
      rw [wk.fi] at wt
      exact ⟨wk.stops φ2 M2 H2 f2 m2 hok, p.nx φ2 σ2 M2 sv2 H2 f12 rs2 m2 wt⟩
/-- a store by place -/
def rPkT (K : PySem.W.Frag) : TSet := fun o i v H Q => ∃ φ M n k d, ∃ N : MS → Prop, RM K H φ M ∧ Rep K H φ o (.ref n) ∧ Rep K H φ i (.int k) ∧ Rep K H φ v d ∧ (match M[n]? with
  | some (.lst ds) => (match Sl.ixN ds.length k with
    | some j => N (M.set n (.lst (ds.set j d)))
    | none => False)
  | some (.dict kvs) => kvs.length < lim ∧ N (M.set n (.dict (dput kvs k d)))
  | _ => False) ∧ ∀ φ' M' H', Fr φ H φ' H' → RM K H' φ' M' → N M' → Q H'
theorem pk_set (hu : X.A.units + 1 < cLine) : PSet X (rPkT X.K) := fun pins s sv H o i v ov iv u Q I ro ri rv ⟨φ, M, n, k, d, N, m, po, pi, px, w, p⟩ => setD hu I ro ri rv m po pi px w p
def notSl : Expr → Bool
  | .Slice .. => false
  | _ => true
theorem ds_setIx {o i : Expr} {lo li : LE} {p1 : Pos} (hu : X.A.units + 1 < cLine) (hn : notSl i = true) (he : PE X e (tOf X.K cv W (wE O la))) (ho : PE X o (tOf X.K cv W (wE O lo))) (hi : PE X i (tOf X.K cv W (wE O li)))
    (hs : swapsWithSole [.Subscript o i p1] e pos.line X.env = pure false) (hw : swappedStores [.Subscript o i p1] e X.env = pure none) : PS X (.Assign [.Subscript o i p1] e pos) (tsOf X.K cv W (wS O (.setIx lo li la))) :=
  PSt.imp (ps_asg he (pg_sub ho hi (pk_set hu) (fun v => by cases i <;> first | exact Bool.noConfusion hn | rfl)) hs hw rfl) fun D sv H ⟨φ, σ, M, En, rs, m, w, p⟩ => by
    rw [wS] at w
    refine tOf.step rs m w (p.x rs) fun φ1 v d M1 H1 f1 rs1 m1 r1 px1 w1 => tOf.step rs1 m1 w1 px1 fun φ2 ov od M2 H2 f2 rs2 m2 r2 px2 w2 => tOf.step rs2 m2 w2 px2 fun φ3 iv id M3 H3 f3 rs3 m3 r3 px3 w3 => ?_
    have f13 := (f1.trans f2).trans f3
    cases od <;> first | exact w3.elim | skip
    cases id <;> first | exact w3.elim | skip
    rename_i n k
    exact ⟨φ3, M3, n, k, d, fun M' => En.nx σ M', m3, r2.fr f3, r3, r1.fr (f2.trans f3), w3, fun φ' M' H' f' m' w' => p.nx φ' σ M' sv H' (f13.trans f') (rs3.fr f') m' w'⟩
end
end Sl
/-! S8: short words for the printed terms; a def's promise. -/
namespace Sl
open PySem PySem.Spec PyProof.Rows L2
section
variable {X : Cx} {cv : Nat → Value} {W : WX} {O : Oracle} {a b c e : Expr} {la lb lc : LE} {pos p : Pos} {es : List Expr} {las : LA}
/-! ### leaves -/
theorem dv (i : Nat) {x : Str} (hN : X.N[i]? = some x := by rfl) (hv : Vis X.env.scope x := by first | exact Or.inl rfl | exact Or.inr (Or.inl rfl) | exact Or.inr (Or.inr rfl)) (hd : (x == ("__debug__" : Str)) = false := by decide)
    (hcd : (x == ("__classdict__" : Str)) = false := by decide) : PE X (.Name x pos) (tOf X.K cv W (wE O (.var i))) := de_var (pe_var hN hv hd hcd)
theorem dci {i : Int} {j : Nat} : PE X (.Constant (.int i) j pos) (tOf X.K cv W (wE O (.con (.int i)))) := de_con pe_int fun _ _ => .int _
theorem dcb {b : Bool} {j : Nat} : PE X (.Constant (.bool b) j pos) (tOf X.K cv W (wE O (.con (.bool b)))) := de_con pe_bl fun _ _ => .bl _
theorem dcn {j : Nat} : PE X (.Constant .none j pos) (tOf X.K cv W (wE O (.con .non))) := de_con pe_non fun _ _ => .non
theorem dcs {x : Str} {z : List Nat} {j : Nat} (h : x = sOf z := by decide +kernel) : PE X (.Constant (.str x) j pos) (tOf X.K cv W (wE O (.con (.str z)))) := de_con pe_str fun _ _ => by rw [h]; exact .str _
/-- a module's constant -/
structure Kg (K : PySem.W.Frag) (mg : Str → Option Value) (x : Str) (d : D) : Prop where
  ex : ∃ v u, mg x = some u ∧ RelV v u ∧ ∀ H φ, Rep K H φ v d
theorem dcg {x : Str} {d : D} (g : Kg X.K X.mg x d) (hg : Gl X x := by rfl) (hd : (x == ("__debug__" : Str)) = false := by decide) : PE X (.Name x pos) (tOf X.K cv W (wE O (.con d))) := by
  obtain ⟨v, u, h1, h2, h3⟩ := g.ex
  exact de_con (pe_glob hg h1 h2 hd) h3
/-! ### operators -/
theorem dbin {o : Operator} {o' : Op2} (ho : OpD X (binaryOp o) (bin2 o')) (ha : PE X a (tOf X.K cv W (wE O la))) (hb : PE X b (tOf X.K cv W (wE O lb))) : PE X (.BinOp a o b pos) (tOf X.K cv W (wE O (.bin o' la lb))) := de_bin ho ha hb
theorem dcmp {o : CmpOp} {o' : Cmp} (ho : OpD X (compareOp o) (cmpQ o')) (ha : PE X a (tOf X.K cv W (wE O la))) (hb : PE X b (tOf X.K cv W (wE O lb))) (hm : behindInMarks o b = false := by rfl) :
    PE X (.Compare a [o] [b] pos) (tOf X.K cv W (wE O (.cmp o' la lb))) := de_cmp ho ha hb hm
theorem cmp2_mono : ∀ (o : Cmp) (d e : D) (M : MS) (Q Q' : Bool → Prop), (∀ k, Q k → Q' k) → cmp2 o d e M Q → cmp2 o d e M Q' := by
  intro o d e M Q Q' h w
  have weq : ∀ (R R' : Bool → Prop), (∀ k, R k → R' k) → wEq d e M R → wEq d e M R' := by
    intro R R' h w
    unfold wEq at w ⊢
    split
    · rename_i c; rw [if_pos c] at w; exact h _ w
    · rename_i c
      rw [if_neg c] at w
      split at w
      · exact ⟨w.1, w.2.1, h _ w.2.2⟩
      · exact w
  cases o with
  | eq => exact weq _ _ h w
  | ne => exact weq _ _ (fun k => h _) w
  | lt => cases d <;> first | exact w.elim | (cases e <;> first | exact w.elim | exact h _ w)
  | le => cases d <;> first | exact w.elim | (cases e <;> first | exact w.elim | exact h _ w)
  | gt => cases d <;> first | exact w.elim | (cases e <;> first | exact w.elim | exact h _ w)
  | ge => cases d <;> first | exact w.elim | (cases e <;> first | exact w.elim | exact h _ w)
  | isin =>
    simp only [cmp2] at w ⊢
    split at w
    · exact h _ w
    · exact w
  | notin =>
    simp only [cmp2] at w ⊢
    split at w
    · exact h _ w
    · exact w
  | is_ => cases d <;> cases e <;> first | exact w.elim | exact h _ w
  | isnot => cases d <;> cases e <;> first | exact w.elim | exact h _ w
theorem dchn {o o2 : CmpOp} {o' o2' : Cmp} (ho : OpD X (compareOp o) (cmpQ o')) (ho2 : OpD X (compareOp o2) (cmpQ o2')) (ha : PE X a (tOf X.K cv W (wE O la))) (hb : PE X b (tOf X.K cv W (wE O lb)))
    (hc : PE X c (tOf X.K cv W (wE O lc))) (hm : lastMarks [o, o2] [b, c] = false := by with_unfolding_all rfl) : PE X (.Compare a [o, o2] [b, c] pos) (tOf X.K cv W (wE O (.chain o' o2' la lb lc))) := de_chain ho ho2 ha hb hc hm (cmp2_mono o')
theorem dtc {o : CmpOp} {o' : Cmp} (ho : OpD X (compareOp o) (cmpQ o')) (ha : PE X a (tOf X.K cv W (wE O la))) (hb : PE X b (tOf X.K cv W (wE O lb))) (hm : behindInMarks o b = false := by rfl) :
    PT X (.Compare a [o] [b] pos) (ttOf X.K cv W (wE O (.cmp o' la lb))) := dt_cmp ho ha hb hm
theorem dtch {o o2 : CmpOp} {o' o2' : Cmp} (ho : OpD X (compareOp o) (cmpQ o')) (ho2 : OpD X (compareOp o2) (cmpQ o2')) (ha : PE X a (tOf X.K cv W (wE O la))) (hb : PE X b (tOf X.K cv W (wE O lb)))
    (hc : PE X c (tOf X.K cv W (wE O lc))) (hm : lastMarks [o, o2] [b, c] = false := by with_unfolding_all rfl) : PT X (.Compare a [o, o2] [b, c] pos) (ttOf X.K cv W (wE O (.chain o' o2' la lb lc))) := dt_chain ho ho2 ha hb hc hm (cmp2_mono o')
theorem dval (h : PE X e (tOf X.K cv W (wE O la))) (he : ∀ whole, isTrue e X.env whole = (do let v ← whole; standAt e.pos; holding [v] (truthy v)) := by intro _; rfl) : PT X e (ttOf X.K cv W (wE O la)) := dt_val h he
theorem dpw (h : PW X e (ttOf X.K cv W (wE O la))) : PT X e (ttOf X.K cv W (wE O la)) := h.pt
theorem dcons (ha : PE X a (tOf X.K cv W (wE O la))) (hr : PA X es (taOf X.K cv W (wA O las))) (hs : starEach (a :: es) X.env = (false, eval a X.env) :: starEach es X.env := by rfl) :
    PA X (a :: es) (taOf X.K cv W (wA O (.cons la las))) := da_cons ha hr hs
theorem didx (hu : X.A.units + 1 < cLine) (ha : PE X a (tOf X.K cv W (wE O la))) (hb : PE X b (tOf X.K cv W (wE O lb))) (hs : PlainIx b := by exact fun _ _ => rfl) : PE X (.Subscript a b pos) (tOf X.K cv W (wE O (.idx la lb))) := de_idx hu ha hb hs
/-! ### calls -/
/-- a def that may be called by its name -/
structure Cl (P : Program) (w : World) (K : PySem.W.Frag) (mg : Str → Option Value) (base : Heap) (cv : Nat → Value) (O : Oracle) (k : Nat) (x : Str) (f na : Nat) : Prop where
  ex : ∃ fa fd ps, FnOk P w K mg base (L2N.CX P w) k fa fd ps (spF K cv O f na) ∧ mg x = some (.ref fa) ∧ PySem.W.keepIn K (.ref fa) = true ∧ Binds K fd ps []
  hn : ∀ ds M Q E, O f ds M Q E → ds.length = na
theorem dcall {x : Str} {k f na : Nat} (F : Cl X.prog X.w X.K X.mg X.base cv O k x f na) (hr : Room k X.A) (tk : L2N.Takes X W) (ha : PA X (a :: es) (taOf X.K cv W (wA O las))) (hg : Gl X x := by rfl) (hdb : (x == ("__debug__" : Str)) = false := by decide)
    (he : starEach (a :: es) X.env = (false, eval a X.env) :: starEach es X.env := by rfl) (hpl : (backTo pos (starEach es X.env)).any (·.1) = false := by rfl) : PE X (.Call (.Name x p) (a :: es) [] pos) (tOf X.K cv W (wE O (.call f las))) := by
  obtain ⟨fa, fd, ps, h1, h2, h3, h4⟩ := F.ex
  exact de_call h1 hr hg h2 h3 h4 tk ha hdb he hpl F.hn
theorem dbi {x : Str} {id : String} {k : Bi} (hc : CallD X (.builtin id) (bi2 k)) (hm : X.mg x = none) (ha : PA X (a :: es) (taOf X.K cv W (wA O las))) (hg : Gl X x := by rfl) (hv : bootBuiltins x = some (.builtin id) := by decide +kernel) (hn : x ≠ "__name__" := by decide)
    (hdb : (x == ("__debug__" : Str)) = false := by decide) (he : starEach (a :: es) X.env = (false, eval a X.env) :: starEach es X.env := by rfl) (hpl : (backTo pos (starEach es X.env)).any (·.1) = false := by rfl) :
    PE X (.Call (.Name x p) (a :: es) [] pos) (tOf X.K cv W (wE O (.bi k las))) := de_bi hc hg hm hv ha hn hdb he hpl
theorem dbt {x : Str} {T : String} {k : Bi} (hc : CallD X (.type T) (bi2 k)) (hm : X.mg x = none) (ha : PA X (a :: es) (taOf X.K cv W (wA O las))) (hg : Gl X x := by rfl) (hv : bootBuiltins x = some (.type T) := by decide +kernel) (hn : x ≠ "__name__" := by decide)
    (hdb : (x == ("__debug__" : Str)) = false := by decide) (he : starEach (a :: es) X.env = (false, eval a X.env) :: starEach es X.env := by rfl) (hpl : (backTo pos (starEach es X.env)).any (·.1) = false := by rfl) :
    PE X (.Call (.Name x p) (a :: es) [] pos) (tOf X.K cv W (wE O (.bi k las))) := de_biT hc hg hm hv ha hn hdb he hpl
theorem pe_ty {x : Str} {T : String} (hm : X.mg x = none) (hg : Gl X x) (hv : bootBuiltins x = some (.type T)) (hn : x ≠ "__name__") (hd : (x == ("__debug__" : Str)) = false) : PE X (.Name x p) (tC (.ty T)) :=
  ⟨fun pins s sv H Q I q => ld_blt I hg hm hv ⟨.ty T, H, I, rfl, q⟩ hn hd⟩
theorem disi (t : Ty) {x tn : Str} {p' : Pos} (hm : X.mg x = none) (hmt : X.mg tn = none) (ha : PE X a (tOf X.K cv W (wE O la))) (hg : Gl X x := by rfl) (hv : bootBuiltins x = some (.builtin "isinstance") := by decide +kernel) (hgt : Gl X tn := by rfl)
    (hvt : bootBuiltins tn = some (.type (tyName t)) := by decide +kernel) (hn : x ≠ "__name__" := by decide) (hdb : (x == ("__debug__" : Str)) = false := by decide) (hnt : tn ≠ "__name__" := by decide) (hdt : (tn == ("__debug__" : Str)) = false := by decide)
    (he : starEach [a, .Name tn p'] X.env = (false, eval a X.env) :: starEach [.Name tn p'] X.env := by rfl) :
    PE X (.Call (.Name x p) [a, .Name tn p'] [] pos) (tOf X.K cv W (wE O (.bi (.isi t) (.cons la .nil)))) := de_isi hg hm hv ha (pe_ty hmt hgt hvt hnt hdt) hn hdb he
theorem dm0 {mt : Mt} {name : Str} {id : String} {apos : Pos} (pa : PlainAttrs (mtTy mt)) (slot : Slot (mtTy mt) name id) (hty : typeOf (.builtin id) = pure (.type "method_descriptor")) (hm : MtD X id (meth2 mt)) (ho : PE X a (tOf X.K cv W (wE O la)))
    (hbase : attributeBase a name X.env (eval a X.env) = eval a X.env := by rfl) (hline : (apos.endLine == pos.line) = true := by rfl) : PE X (.Call (.Attribute a name apos) [] [] pos) (tOf X.K cv W (wE O (.meth mt la .nil))) := de_meth0 pa slot hty hm ho hbase hline
theorem dm1 {mt : Mt} {name : Str} {id : String} {apos : Pos} (pa : PlainAttrs (mtTy mt)) (slot : Slot (mtTy mt) name id) (hty : typeOf (.builtin id) = pure (.type "method_descriptor")) (hm : MtD X id (meth2 mt)) (ho : PE X a (tOf X.K cv W (wE O la)))
    (ha : PA X (e :: es) (taOf X.K cv W (wA O las))) (hbase : attributeBase a name X.env (eval a X.env) = eval a X.env := by rfl)
    (hfew : ((backTo pos (starEach (e :: es) X.env)).all (fun x => !x.1) && (backToKw pos (keywordEach [] X.env)).all (fun x => x.1.isSome) && decide ((e :: es).length + ([] : List Keyword).length + (if ([] : List Keyword).isEmpty then 0 else 1) < 30)) = true := by rfl)
    (hline : (apos.endLine == pos.line) = true := by rfl) (hs : starEach (e :: es) X.env = (false, eval e X.env) :: starEach es X.env := by rfl) (hplain : (backTo pos (starEach es X.env)).any (·.1) = false := by rfl) :
    PE X (.Call (.Attribute a name apos) (e :: es) [] pos) (tOf X.K cv W (wE O (.meth mt la las))) := de_meth pa slot hty hm ho ha hbase hfew hline hs hplain
/-! ### comprehensions -/
theorem dts_nil : PTs X [] (ttOf X.K cv W (wE O (.con (.bool true)))) := ⟨fun pins s sv H Q I ⟨φ, σ, M, Qp, Ep, rs, m, w, p, px⟩ => by
  rw [wE] at w
  obtain ⟨k, e, q⟩ := p φ _ M H (Fr.refl _ _) m w
  cases e
  exact pts_nil.run pins s sv H Q I q⟩
theorem dts_one (h : PT X c (ttOf X.K cv W (wE O lc))) : PTs X [c] (ttOf X.K cv W (wE O lc)) := pts_one h
theorem dcomp {elt tg iter : Expr} {ifs : List Expr} {scope : Scope} (own : List (Str × Nat)) {vs : List Nat} {k : ItK} {src : LA} {t : LT} {lc le : LE} {g : TG} (hc : X.calm = true) (hN : X.N.Nodup) (hi : PI X tg iter (tiOf X.K cv W (wSrc O k src)))
    (tk : TgOk X.K g t)
    (hg : ∀ (s : Shared) (H : Hp) (C : Addr) (cl : List (Str × Addr)) (fp : List Addr), PG (X.blk s H scope (compEnvC scope cl C X.env) fp) tg g)
    (ht : ∀ (s : Shared) (H : Hp) (C : Addr) (cl : List (Str × Addr)) (fp : List Addr), PTs (X.blk s H scope (compEnvC scope cl C X.env) fp) ifs (ttOf X.K cv W0 (wE O lc)))
    (he : ∀ (s : Shared) (H : Hp) (C : Addr) (cl : List (Str × Addr)) (fp : List Addr), PE (X.blk s H scope (compEnvC scope cl C X.env) fp) elt (tOf X.K cv W0 (wE O le)))
    (hv : vs = own.map (·.2) := by rfl) (hsl : ∀ i ∈ t.slots, i ∈ own.map (·.2) := by decide) (ok : blkC X.N X.env.scope scope own = true := by rfl) (hs : ∀ x, foldedSetIterable iter X.env x = pure x := by intro _; rfl) :
    PE X (.ListComp elt [⟨tg, iter, ifs, 0⟩] scope pos) (tOf X.K cv W (wE O (.comp vs k src t lc le))) := by
  subst hv
  exact de_comp hc hN hi (blkOk_by ok) tk hsl hg ht he hs
/-! ### targets, statements -/
theorem gn (i : Nat) {x : Str} (hN : X.N.Nodup) (hi : X.N[i]? = some x := by rfl) (hx : L2.Loc X.env.scope x := by first | exact Or.inl rfl | exact Or.inr rfl) (hf : X.fn x = true ∨ X.env.scope.names.lookup x = some .local := by first | exact .inl rfl | exact .inr rfl) : PG X (.Name x pos) (gName i) := pg_name hN hi hx hf
theorem ds_set (i : Nat) {x : Str} {p' : Pos} (hN : X.N.Nodup) (he : PE X e (tOf X.K cv W (wE O la))) (hi : X.N[i]? = some x := by rfl) (hx : L2.Loc X.env.scope x := by first | exact Or.inl rfl | exact Or.inr rfl) (hs : swapsWith e (some (.Name x p')) pos.line X.env = pure false := by rfl)
    (hf : X.fn x = true ∨ X.env.scope.names.lookup x = some .local := by first | exact .inl rfl | exact .inr rfl) : PS X (.Assign [.Name x p'] e pos) (tsOf X.K cv W (wS O (.asg (.name i) la))) := ds_asg (ps_set hN hi hx he hs hf) (fun _ _ _ h => h) tg_name
theorem ds_setC (i : Nat) {y : Str} {py : Pos} {elt tg iter : Expr} {ifs : List Expr} {scope : Scope} {spos : Pos} (own : List (Str × Nat)) {vs : List Nat} {k : ItK} {src : LA} {t : LT} {lc le : LE} {g : TG} (hc : X.calm = true) (hN : X.N.Nodup) (hi : PI X tg iter (tiOf X.K cv W (wSrc O k src)))
    (tk : TgOk X.K g t)
    (hg : ∀ (s : Shared) (H : Hp) (C : Addr) (cl : List (Str × Addr)) (fp : List Addr), PG (X.blk s H scope (compEnvC scope cl C X.env) fp) tg g)
    (ht : ∀ (s : Shared) (H : Hp) (C : Addr) (cl : List (Str × Addr)) (fp : List Addr), PTs (X.blk s H scope (compEnvC scope cl C X.env) fp) ifs (ttOf X.K cv W0 (wE O lc)))
    (he : ∀ (s : Shared) (H : Hp) (C : Addr) (cl : List (Str × Addr)) (fp : List Addr), PE (X.blk s H scope (compEnvC scope cl C X.env) fp) elt (tOf X.K cv W0 (wE O le)))
    (hv : vs = own.map (·.2) := by rfl) (hsl : ∀ i ∈ t.slots, i ∈ own.map (·.2) := by decide) (ok : blkC X.N X.env.scope scope own = true := by rfl) (hs : ∀ x, foldedSetIterable iter X.env x = pure x := by intro _; rfl)
    (hy : X.N[i]? = some y := by rfl) (hyl : X.env.scope.names.lookup y = some .local := by rfl) (hk : X.env.scope.kind = .function := by rfl) (hl : (py.line == pos.line) = true := by rfl)
    (ha : (scope.names.any fun (n, k) => n == y && (k == .local || k == .cell)) = false := by rfl) :
    PS X (.Assign [.Name y py] (.ListComp elt [⟨tg, iter, ifs, 0⟩] scope pos) spos) (tsOf X.K cv W (wS O (.asg (.name i) (.comp vs k src t lc le)))) := by
  subst hv
  exact ds_asg (ps_setLc hc hN hy hyl (sw_true hk hyl hl ha) hi (blkOk_by ok) hg ht he hs) (fun _ _ _ h => comp_read tk hsl _ _ _ h) tg_name
theorem ds_unp {is : List Nat} {elts : List Expr} {kk : Nat} {tp : Pos} (hc : X.calm = true) (he : PE X e (tOf X.K cv W (wE O la))) (hg : PGs X elts (gNames is)) (hn : (assignEach elts X.env).length = is.length := by rfl) (hst : (assignEach elts X.env).findIdx? (·.1) = none := by rfl)
    (hs : swapsWithSole [.Tuple elts kk tp] e pos.line X.env = pure false := by rfl) (hw : swappedStores [.Tuple elts kk tp] e X.env = pure none := by rfl) : PS X (.Assign [.Tuple elts kk tp] e pos) (tsOf X.K cv W (wS O (.asg (.tup is) la))) :=
  ds_asg (ps_asg he (pg_tup hc hg hn hst) hs hw) (fun _ _ _ h => h) tg_tup
theorem gt (is : List Nat) {elts : List Expr} {kk : Nat} {tp : Pos} (hc : X.calm = true) (hg : PGs X elts (gNames is)) (hn : (assignEach elts X.env).length = is.length := by rfl) (hst : (assignEach elts X.env).findIdx? (·.1) = none := by rfl) :
    PG X (.Tuple elts kk tp) (gTup X.K is.length (gNames is)) := pg_tup hc hg hn hst
theorem ds_ex (he : PE X e (tOf X.K cv W (wE O la))) (hs : swapsWith e none pos.line X.env = pure false := by rfl) : PS X (.Expr e pos) (tsOf X.K cv W (wS O (.expr la))) := ds_expr he hs
theorem ds_sub {o i : Expr} {lo li : LE} {p1 : Pos} (hu : X.A.units + 1 < cLine) (ho : PE X o (tOf X.K cv W (wE O lo))) (hi : PE X i (tOf X.K cv W (wE O li))) (he : PE X e (tOf X.K cv W (wE O la))) (hn : notSl i = true := by rfl)
    (hs : swapsWithSole [.Subscript o i p1] e pos.line X.env = pure false := by rfl) (hw : swappedStores [.Subscript o i p1] e X.env = pure none := by rfl) : PS X (.Assign [.Subscript o i p1] e pos) (tsOf X.K cv W (wS O (.setIx lo li la))) :=
  ds_setIx hu hn he ho hi hs hw
theorem ds_for {ls : LS} {tg iter : Expr} {body : List Stmt} {k : ItK} {src : LA} {t : LT} {g : TG} (hp : PassesOwn (model X.prog X.w) X.A X.env X.xe) (hi : PI X tg iter (tiOf X.K cv W (wSrc O k src))) (hg : PG X tg g) (tk : TgOk X.K g t)
    (hb : PSs X body (tsOf X.K cv W (wS O ls))) (hc : X.calm = true := by rfl) (hs : ∀ x, foldedSetIterable iter X.env x = pure x := by intro _; rfl) : PS X (.For tg iter body [] pos) (tsOf X.K cv W (wS O (.fr t k src ls))) := ds_fr hp hc hi hg tk hb hs
end

/-! ### a def -/
section
variable {P : Program} {w : World} {K : PySem.W.Frag} {mg : Str → Option Value} {base : Heap} {cv : Nat → Value} {PP : Nat → Option Fn}
theorem wF_len {n f : Nat} {d : Fn} (hP : PP f = some d) (hf : f < 2000 := by decide) : ∀ ds M Q E, wF PP n f ds M Q E → ds.length = d.nargs := by
  intro ds M Q E w
  cases n with
  | zero => exact w.elim
  | succ n =>
    rw [wF] at w
    rw [if_pos hf, hP] at w
    exact w.1
theorem rs_start {H : Hp} {φ : List Addr} {vs : List V} {ds : List D} {N : List Str} {m : Nat} (r : Reps K H φ vs ds) (h : N.length - vs.length = m) : RS K H φ (L2.start N vs) (ds.map some ++ List.replicate m none) := by
  subst h
  refine ⟨by unfold L2.start; rw [List.length_append, List.length_append, List.length_map, List.length_map, r.len, List.length_replicate, List.length_replicate], fun i d e => ?_⟩
  unfold L2.start
  by_cases hi : i < ds.length
  · rw [List.getElem?_append_left (by rw [List.length_map]; exact hi), List.getElem?_map] at e
    cases q : ds[i]? with
    | none => rw [q] at e; cases e
    | some d' =>
      rw [q] at e
      cases e
      obtain ⟨v, h1, h2⟩ := r.get q
      refine ⟨v, ?_, h2⟩
      rw [List.getElem?_append_left (by rw [List.length_map, r.len]; exact hi), List.getElem?_map, h1]
      rfl
  · rw [List.getElem?_append_right (by rw [List.length_map]; omega)] at e
    have := List.mem_of_getElem? e
    rw [List.mem_replicate] at this
    cases this.2
/-- a def of the text -/
structure Fu (K : PySem.W.Frag) (mg : Str → Option Value) (x : Str) (st : Stmt) (ps : List Str) : Prop where
  ex : ∃ fa fd, Fun K x x st fa fd ∧ mg x = some (.ref fa) ∧ ∀ us : List Value, us.length = ps.length → bindArgs fd ⟨us, []⟩ = pure (ps.zip us)
theorem fn_mk {x : Str} {f n : Nat} {d : Fn} {st : Stmt} {fa : Addr} {fd : FuncData} {N ps : List Str} (hP : PP f = some d) (F : Fun K x x st fa fd) (S : FnScope N ps (defScope st)) (hN : N.length = d.nslots) (hp : ps.length = d.nargs)
    (hb : ∀ (cdv : Value) (A : Around) (outer : List Env) (s : Shared) (H : Hp) (E : XK), Room n (A.deeper (envOfC x (defScope st) s.heap.objs.size fa cdv)) →
      L2N.Takes (cxOf (L2N.CX P w) P w K mg base N x (defScope st) fa cdv A outer s H E) (fun cls d _ H => E cls d H) →
      PassesOwn (model P w) (A.deeper (envOfC x (defScope st) s.heap.objs.size fa cdv)) (envOfC x (defScope st) s.heap.objs.size fa cdv) (cxOf (L2N.CX P w) P w K mg base N x (defScope st) fa cdv A outer s H E).xe →
      PSs (cxOf (L2N.CX P w) P w K mg base N x (defScope st) fa cdv A outer s H E) (defBody st) (tsOf K cv (fun cls d _ H => E cls d H) (wS (wF PP n) d.body))) (hf : f < 2000 := by decide) : FnOk P w K mg base (L2N.CX P w) (n + 1) fa fd ps (spF K cv (wF PP (n + 1)) f d.nargs) := by
  obtain ⟨oc, od, kV, doc, pm, an, cdv, ct, osl, rfl, lk, hcd⟩ := F.ex
  refine fn_of lk hcd S (fun vs H Q E h => by rw [h.1, hp]) fun A outer s H vs Q E hr h => ⟨_, hb cdv A outer s H E hr (L2N.takes_of rfl rfl rfl rfl) (passes_of rfl), ?_⟩
  obtain ⟨hl, φ, M, ds, Qp, Ep, m, r, wf, p, px⟩ := h
  rw [wF] at wf
  rw [if_pos hf, hP] at wf
  refine ⟨φ, _, M, _, rs_start r (m := d.nslots - d.nargs) (by rw [hN, hl]), m, wf.2, ⟨fun φ' σ' M' sv' H' f rs' m' q => p.ok _ _ _ _ _ f m' .non q, fun φ' v d' M' H' f m' r' q => p.ok _ _ _ _ _ f m' r' q, fun φ' c σ' M' sv' H' f rs' m' q => px _ _ _ _ f m' q⟩⟩
theorem cl_mk {x : Str} {f n : Nat} {d : Fn} {st : Stmt} {ps : List Str} (hP : PP f = some d) (u : Fu K mg x st ps) (h : ∀ fa fd, Fun K x x st fa fd → FnOk P w K mg base (L2N.CX P w) (n + 1) fa fd ps (spF K cv (wF PP (n + 1)) f d.nargs)) (hf : f < 2000 := by decide) : Cl P w K mg base cv (wF PP (n + 1)) (n + 1) x f d.nargs := by
  obtain ⟨fa, fd, F, hm, b⟩ := u.ex
  exact ⟨⟨fa, fd, ps, h fa fd F, hm, F.kp, .all b⟩, wF_len hP hf⟩
/-- nothing is promised of a call with no room -/
theorem cl_zero {x : Str} {f : Nat} {d : Fn} {st : Stmt} {ps : List Str} (hP : PP f = some d) (u : Fu K mg x st ps) (hf : f < 2000 := by decide) : Cl P w K mg base cv (wF PP 0) 0 x f d.nargs := by
  obtain ⟨fa, fd, F, hm, b⟩ := u.ex
  exact ⟨⟨fa, fd, ps, ⟨fun vs H Q E h => by obtain ⟨_, _, _, _, _, _, _, _, z, _⟩ := h; exact z.elim, fun A outer s H args us vs Q E hr he hb hv h => by obtain ⟨_, _, _, _, _, _, _, _, z, _⟩ := h; exact z.elim⟩, hm, F.kp, .all b⟩, wF_len hP hf⟩
/-- the law's argument -/
theorem sp_law {O : Oracle} {f : Nat} {H : Hp} {a : Addr} {ns : List Int} (hO : Only H) (hS : SqL K H a (ns.map V.int)) (hw : O f [.kl (ns.map D.int)] [] (fun d _ => d = .bool true) (fun _ _ => False)) :
    spF K cv O f 1 [.ref a] H (fun v _ => v = .bl true) fun _ _ _ => False := by
  have ro : ROk K H a (ns.map V.int) := by
    rcases hS with (h | ⟨o, h⟩) | h
    · rcases hO a with q | ⟨o, xs, q⟩ <;> rw [q] at h <;> cases h
    · exact .inl ⟨o, h⟩
    · exact .inr fun H' => .inr h
  have inl : ∀ ns : List Int, Reps K H [] (ns.map V.int) (ns.map D.int) := by
    intro ns
    induction ns with
    | nil => exact .nil
    | cons i r ih => exact .cons (.int i) ih
  refine ⟨rfl, [], [], _, _, _, ⟨rfl, List.nodup_nil, fun n o a e1 e2 => by cases e2⟩, .cons (.kl ro (inl ns)) .nil, hw, ⟨fun φ' v d M' H' f m' r q => ?_⟩, fun φ' c M' H' f m' q => q⟩
  subst q
  cases r
  rfl
theorem cx_no {P : Program} {w : World} {H : Hp} {s : Shared} {e : Value} {s' : Shared} (h : L2N.CX P w [] H s (fun _ _ _ => False) e s') : False := by
  obtain ⟨_, _, _, _, _, _, _, _, _, _, _, _, z⟩ := h
  exact z
end
end Sl
/-! S9: a tuple under enumerate. -/
namespace Sl
open PySem PySem.Spec PyProof.Rows L2
/-- the tuple at a, each item in a new pair with its place -/
def Iet (K : PySem.W.Frag) (a : Addr) : It where
  go := fun i H => ∃ (xs : List V) (x : V), SqT K H a xs ∧ xs[i]? = some x
  yld := fun i H v H2 => ∃ T x, v = .ref T ∧ H T = none ∧ H2 = upd H T (.tup [.int (i : Nat), x]) ∧ ∀ xs, SqT K H a xs → xs[i]? = some x
  stop := fun i H => ∃ xs : List V, SqT K H a xs ∧ xs.length = i
theorem cls_apart {h : Heap} {a b : Addr} {o u : Obj} (e : h.get? a = some o) (f : h.get? b = some u) (hc : o.cls ≠ u.cls) : a ≠ b := fun z => by
  subst z
  rw [e] at f
  cases f
  exact hc rfl
theorem turn_enumT {P : Program} {w : World} {K : PySem.W.Frag} {elts : List Expr} {kk : Nat} {tpos : Pos} (a e it : Addr) :
    Turn P w K (.Tuple elts kk tpos) (Iet K a) [e, it] e (fun i h => (∃ old, IsEnum h e it ((i : Nat) : Int) old) ∧ h.IsTupleIter it a i ∧ e ≠ it) where
  mem := List.mem_cons_self
  obj := fun i h st b hb => by
    obtain ⟨⟨old, he⟩, ⟨o, ho, hc, hd⟩, _⟩ := id st
    rcases List.mem_cons.mp hb with z | z
    · rw [z]
      exact ⟨_, he, fun v q => nomatch q⟩
    · rw [List.mem_singleton.mp z]
      exact ⟨o, ho, fun v q => by rw [hd] at q; cases q⟩
  keep := fun i h h2 st k => ⟨st.1.elim fun old he => ⟨old, k e (by simp) _ he⟩, st.2.1.at fun o q => k it (by simp) o q, st.2.2⟩
  item := by
    intro Y y1 y2 y3 hc i pins s σ H E I hf st hg
    subst y1 y2 y3
    obtain ⟨⟨old, he⟩, hit, hne⟩ := id st
    obtain ⟨xs, x, hq, hx⟩ := id hg
    obtain ⟨its, rv, p, hz⟩ := I.tuple hq
    obtain ⟨u, hu, ru⟩ := rv.get hx
    have p2 : s.heap.IsTuple a its.toArray := p
    have nt : a ≠ it := by
      obtain ⟨o1, q1, c1, _⟩ := id p2
      obtain ⟨o2, q2, c2, _⟩ := id hit
      exact cls_apart q1 q2 (by rw [c1, c2]; decide)
    have ne : a ≠ e := by
      obtain ⟨o1, q1, c1, _⟩ := id p2
      exact cls_apart q1 he (by rw [c1]; show Value.type "tuple" ≠ Value.type "enumerate"; decide)
    have lt1 : e < s.heap.objs.size := Heap.lt_size he
    have lt2 : it < s.heap.objs.size := hit.elim fun _ q => Heap.lt_size q.1
    have hi : i < its.toArray.size := by
      have := (List.getElem?_eq_some_iff.mp hu).1
      simpa using this
    have D := Draws.tuple (prog := Y.prog) (w := Y.w) (A := Y.A.in1) (show Y.A.in1.handled = none from I.ok.hd hc) it a nt its.toArray
    refine wpAny_pyNext_enum_itemD D he ⟨hit, p2⟩ hi hne (by simp [hne, Ne.symm ne]) fun x2 h2 tk hx2 ho hst hT hsz hk => ?_
    have ex : x2 = u := by
      have : some x2 = some u := hx2.symm.trans (by simpa using hu)
      exact Option.some.inj this
    subst ex
    refine ⟨_, rfl, wpAny_letOwnedTupleGo_enum (s := { s with heap := h2, toks := tk + 1 }) ho fun h3 he3 sb => ?_⟩
    have nT : s.heap.objs.size ≠ e := Nat.ne_of_gt lt1
    have hT3 : h3.get? s.heap.objs.size = some { cls := .type "tuple", data := .seq #[.int i tk, x2] } := (sb.2 _ nT).trans hT
    have new : ObjOk Y.prog Y.w (upd H s.heap.objs.size (.tup [.int (i : Nat), x])) h3 s.heap.objs.size (.tup [.int (i : Nat), x]) :=
      ⟨by show 2 ≤ sizeLine; decide, [.int i tk, x2], .cons ⟨_, rfl⟩ (.cons ru .nil), ⟨_, hT3, rfl, _, rfl⟩⟩
    have J : Inv Y pins σ (upd H s.heap.objs.size (.tup [.int (i : Nat), x])) { s with heap := h3, toks := tk + 1 } :=
      I.turnedNew (ch := [e, it]) (fun b ob hb q => (sb.2 b fun z => hb (by simp [z])).trans (hk b ob (fun z => hb (by simp [z])) (fun z => hb (by simp [z])) q)) hf (Nat.le_refl _) new
    refine ⟨.ref s.heap.objs.size, _, J, rfl, ⟨_, x, rfl, I.hok.fresh (Nat.le_refl _), rfl, fun ys hy => ?_⟩, ⟨⟨x2, ?_⟩, ?_, hne⟩, fun b hb => ?_⟩
    · rw [I.tuple_inj hy hq]
      exact hx
    · rw [show ((i + 1 : Nat) : Int) = (i : Int) + 1 by omega]
      exact he3
    · exact hst.1.at fun o q => (sb.2 it (Ne.symm hne)).trans q
    · have lt : b < s.heap.objs.size := by
        rcases List.mem_cons.mp hb with z | z
        · rw [z]; exact lt1
        · rw [List.mem_singleton.mp z]; exact lt2
      rw [upd_ne (Nat.ne_of_lt lt)]
      exact (hf b hb).1
  done := by
    intro Y y1 y2 y3 hc i pins s σ H E I hf st hg
    subst y1 y2 y3
    obtain ⟨⟨old, he⟩, hit, hne⟩ := id st
    obtain ⟨xs, hq, hx⟩ := id hg
    obtain ⟨its, rv, p, hz⟩ := I.tuple hq
    obtain ⟨f0, f1, f2, f3, f4, f5⟩ := hf it (by simp)
    have hl := rv.length
    have p2 : s.heap.IsTuple a its.toArray := p
    have nt : a ≠ it := by
      obtain ⟨o1, q1, c1, _⟩ := id p2
      obtain ⟨o2, q2, c2, _⟩ := id hit
      exact cls_apart q1 q2 (by rw [c1, c2]; decide)
    have D := Draws.tuple (prog := Y.prog) (w := Y.w) (A := Y.A.in1) (show Y.A.in1.handled = none from I.ok.hd hc) it a nt its.toArray
    have ei : its.toArray.size = i := by rw [← hx, hl]; simp
    refine wpAny_pyNext_enum_endD D he ⟨by rw [ei]; exact hit, p2⟩ fun h2 eb => ⟨rfl, ?_⟩
    exact I.turned (t' := s.toks) (fun b o hb q => eb b o hb q) f0 f1 f3 f4 f5
  self := fun A i s Q E st h => st.1.elim fun _ he => wpAny_pyIter_enum he h
/-- enumerate(t), t a tuple, is made -/
theorem meets_enumT (t : Addr) (items : Array Value) :
    Meets (Builtin.«enumerate.__new__» ⟨[.type "enumerate", .ref t], []⟩) (fun _ R s => s.heap.IsTuple t items ∧
      R (.ok (.ret (.ref (s.heap.push { cls := .type "tuple_iterator", data := .fields #[.ref t, .int 0 0] }).objs.size)))
        { s with heap := (s.heap.push { cls := .type "tuple_iterator", data := .fields #[.ref t, .int 0 0] }).push { cls := .type "enumerate", data := .fields #[.none, .bool false, .ref s.heap.objs.size, rawInt 0, .none, .none] } }) :=
  .of_wp fun prog w A R s h => by
    obtain ⟨hp, gs, dd, tk, ox⟩ := s
    obtain ⟨hT, h⟩ := h
    have sube := sub_enumerate
    have go : ∀ {A2 : Around} {E2 : Value → Shared → Prop} {Q2 : Value → Shared → Prop}, Q2 (.ref hp.objs.size) ⟨hp.push { cls := .type "tuple_iterator", data := .fields #[.ref t, .int 0 0] }, gs, dd, tk, ox⟩ → wpAny (model prog w) A2 (pyIter (.ref t)) Q2 E2 ⟨hp, gs, dd, tk, ox⟩ :=
      fun q => wpAny_pyIter_tuple (s := ⟨hp, gs, dd, tk, ox⟩) hT q
    wp_walk using go
    refine wpAny_stack_any fun sk => wpAny_pure ?_
    split
    · rename_i cc _ _ _ _ _
      cases (cc == Value.type "enumerate") <;>
      · wp_walk using go
        exact ⟨_, rfl, h⟩
    · wp_walk using go
      exact ⟨_, rfl, h⟩
section
variable {P : Program} {w : World} {A : Around} {E : Value → Shared → Prop} {s : Shared}
theorem call_enumT {t : Addr} {items : Array Value} {Q : Value → Shared → Prop} (hT : s.heap.IsTuple t items)
    (h : ∀ h2, IsEnum h2 (s.heap.objs.size + 1) s.heap.objs.size 0 .none → h2.IsTupleIter s.heap.objs.size t 0 → (∀ b o, s.heap.get? b = some o → h2.get? b = some o) → Q (.ref (s.heap.objs.size + 1)) { s with heap := h2 }) :
    wpAny (model P w) A (call (.type "enumerate") [.ref t]) Q E s := by
  refine callType_new F.called_enumerate (by decide) (F.typeCall_enumerate_1 _) (F.newCall_enumerate_1 _) (fun ob => F.args_object_init_2 ob _) F.entry_enumerate_new (meets_enumT t items) ⟨hT, ?_⟩
  have z : (s.heap.push { cls := .type "tuple_iterator", data := .fields #[.ref t, .int 0 0] }).objs.size = s.heap.objs.size + 1 := Heap.size_push ..
  have en : IsEnum ((s.heap.push { cls := .type "tuple_iterator", data := .fields #[.ref t, .int 0 0] }).push { cls := .type "enumerate", data := .fields #[.none, .bool false, .ref s.heap.objs.size, rawInt 0, .none, .none] }) (s.heap.objs.size + 1) s.heap.objs.size 0 .none := by
    have k := Heap.get?_push_size (s.heap.push { cls := .type "tuple_iterator", data := .fields #[.ref t, .int 0 0] }) (o := { cls := .type "enumerate", data := .fields #[.none, .bool false, .ref s.heap.objs.size, rawInt 0, .none, .none] }) rfl
    rw [z] at k
    exact k
  show _ ∧ _
  rw [z]
  exact ⟨⟨_, en, rfl⟩, h _ en ⟨_, Heap.get?_push_of_some _ (Heap.get?_push_size _ rfl), rfl, rfl⟩ fun b o x => Heap.get?_push_of_some _ (Heap.get?_push_of_some _ x)⟩
end
def iEnumT (K : PySem.W.Frag) (ta : TA) : TI := fun sv H R => ta sv H fun vs H1 => ∃ a, vs = [.ref a] ∧ (∃ xs, SqT K H1 a xs) ∧ R (Iet K a) H1
theorem pi_enumT {X : Cx} {e : Expr} {ta : TA} {p pos tpos : Pos} {elts : List Expr} {kk : Nat} (hg : Gl X "enumerate") (hm : X.mg "enumerate" = none) (ha : PA X [e] ta) (hs : starEach [e] X.env = [(false, eval e X.env)]) :
    PI X (.Tuple elts kk tpos) (.Call (.Name "enumerate" p) [e] [] pos) (iEnumT X.K ta) := ⟨fun pins s sv H R I h => by
  refine Call_ (ld_blt I hg hm boot_enumerate (PyProof.Rows.callWith_type1 (thn (ha.run pos pins s sv H _ I h) fun us s1 ⟨vs, H1, I1, r1, q1⟩ => ?_) hs rfl))
  obtain ⟨a, rfl, ⟨xs, hq⟩, q⟩ := q1
  cases r1 with
  | cons r rr =>
    cases rr
    cases r
    obtain ⟨its, rv, p2, hz⟩ := I1.tuple hq
    refine call_enumT (show s1.heap.IsTuple a its.toArray from p2) fun h2 he hit hk => wpAny_pyIter_enum he ?_
    have J : Inv X pins sv H1 { s1 with heap := h2 } := I1.kept (t' := s1.toks) hk
    refine ⟨s1.heap.objs.size + 1, [s1.heap.objs.size + 1, s1.heap.objs.size], _, _, H1, rfl, J, turn_enumT a (s1.heap.objs.size + 1) s1.heap.objs.size, ⟨⟨.none, he⟩, hit, Nat.succ_ne_self _⟩, fun b hb => ?_, q⟩
    have le : s1.heap.objs.size ≤ b := by
      rcases List.mem_cons.mp hb with z | z
      · rw [z]; exact Nat.le_succ _
      · rw [List.mem_singleton.mp z]; exact Nat.le_refl _
    exact I1.fpOk le (I1.hok.fresh le)⟩
theorem wk_enumT {K : PySem.W.Frag} {φ0 : List Addr} {H0 : Hp} {a : Addr} {vs : List V} {ds : List D} (ha : H0 a = some (.tup vs)) (r : Reps K H0 φ0 vs ds) : Wk K φ0 H0 (Iet K a) (enumL 0 ds) .free where
  goes := fun i d φ M H fr m _ hi => by
    obtain ⟨e, he, rfl⟩ := enum_get ds 0 i d hi
    obtain ⟨v, hv, rv⟩ := (r.fr fr).get he
    have q : SqT K H a vs := SqT.of (fr.tup _ _ ha)
    refine ⟨⟨vs, v, q, hv⟩, fun x H2 ⟨T, y, ex, hT, eH, hy⟩ => ?_⟩
    subst ex eH
    have e2 := hy vs q
    rw [hv] at e2
    cases e2
    have fn : Fr φ H φ (upd H T (.tup [.int ((i : Nat) : Int), v])) := Fr.newT hT
    refine ⟨fn, m.newT hT, .tup upd_same (.cons ?_ (.cons (rv.fr fn) .nil))⟩
    rw [Nat.zero_add]
    exact .int _
  stops := fun φ M H fr m _ => ⟨vs, SqT.of (fr.tup _ _ ha), by rw [enum_len, r.len]⟩
theorem dl_enumT {X : Cx} {cv : Nat → Value} {W : WX} {O : Oracle} {a : Expr} {las : LA} {p pos tpos : Pos} {elts : List Expr} {kk : Nat} (hg : Gl X "enumerate") (hm : X.mg "enumerate" = none) (ha : PA X [a] (taOf X.K cv W (wA O las))) (hs : starEach [a] X.env = [(false, eval a X.env)]) :
    PI X (.Tuple elts kk tpos) (.Call (.Name "enumerate" p) [a] [] pos) (tiOf X.K cv W (wSrc O .enumT las)) := ⟨fun pins s sv H R I ⟨φ, σ, M, Qp, Ep, rs, m, w, pp, px⟩ => by
  unfold wSrc at w
  refine (pi_enumT hg hm ha hs).run pins s sv H R I (taOf.step rs m w px fun φ1 xs ds M1 H1 f1 rs1 m1 r1 px1 w1 => ?_)
  split at w1 <;> try exact w1.elim
  rename_i ys h hw
  have key : ∃ es, ds = [.tup es] ∧ ys = enumL 0 es ∧ h = .free := by
    match ds, hw with
    | [.tup es], hw =>
      have hw : (some (enumL 0 es, Hold.free) : Option (List D × Hold)) = some (ys, h) := hw
      cases hw
      exact ⟨es, rfl, rfl, rfl⟩
    | [], hw => cases hw
    | [.non], hw => cases hw
    | [.bool _], hw => cases hw
    | [.int _], hw => cases hw
    | [.str _], hw => cases hw
    | [.ref _], hw => cases hw
    | [.lv _], hw => cases hw
    | [.exc _ _], hw => cases hw
    | [.kl _], hw => cases hw
    | z :: _ :: _, hw => cases z <;> cases hw
  obtain ⟨es, rfl, rfl, rfl⟩ := key
  obtain ⟨x, rfl, rx⟩ := one_of r1
  cases rx with
  | @tup q vs ds h1 h2 => exact ⟨q, rfl, ⟨vs, SqT.of h1⟩, pp φ1 _ _ M1 H1 _ f1 m1 w1 (wk_enumT h1 h2)⟩⟩
theorem dcm {X : Cx} {cv : Nat → Value} {W : WX} {O : Oracle} {pos p2 : Pos} {i : Int} {j : Nat} : PE X (.UnaryOp .USub (.Constant (.int i) j p2) pos) (tOf X.K cv W (wE O (.con (.int (-i))))) := PE.imp (pe_un un_neg pe_int) fun sv H Q ⟨φ, σ, M, Qp, Ep, rs, m, w, p, px⟩ => by
  rw [wE] at w
  exact ⟨i, rfl, p.here m (.int _) w⟩
/-! ### {k: v} -/
theorem upd_keepsD {H : Hp} {p : Addr} {kvs : List (Key × V)} {u : HO} (hp : H p = some (.dK kvs)) : Keeps H (L2.upd H p u) := by
  refine ⟨fun a ys h => ?_, fun a o w h => ?_⟩ <;> rw [upd_ne (fun z => by subst z; rw [hp] at h; cases h)] <;> exact h
theorem de_dict1 {X : Cx} {cv : Nat → Value} {W : WX} {O : Oracle} {k v : Expr} {lk lv : LE} {pos : Pos} (hk : PE X k (tOf X.K cv W (wE O lk))) (hv : PE X v (tOf X.K cv W (wE O lv))) :
    PE X (.Dict [some k] [v] pos) (tOf X.K cv W (wE O (.dict1 lk lv))) :=
  PE.imp (pe_disp (pps_cons hk hv pps_nil) rfl rfl (by simp) (Nat.le_of_ble_eq_true rfl)) fun sv H Q ⟨φ, σ, M, Qp, Ep, rs, m, w, p, px⟩ => by
    rw [wE] at w
    intro a ha
    have hn := m.out ha
    have f0 : Fr φ H φ (L2.upd H a (.dK [])) := (Fr.refl _ _).mutD ha
    have m0 : RM X.K (L2.upd H a (.dK [])) φ M := ⟨m.len, m.nd, fun n o b e1 e2 => (m.at_ n o b e1 e2).at f0 fun u q => by rw [upd_ne (ne_of_none q ha)]; exact q⟩
    have px0 : XPost X.K cv φ (L2.upd H a (.dK [])) sv W Ep := px.fr f0
    refine tOf.step (rs.fr f0) m0 w px0 fun φ1 x d M1 H1 f1 rs1 m1 r1 px1 w1 => tOf.step rs1 m1 w1 px1 fun φ2 y e M2 H2 f2 rs2 m2 r2 px2 w2 => ?_
    have f12 := f1.trans f2
    have hH2 : H2 a = some (.dK []) := f12.keep a _ upd_same hn
    have hn2 : a ∉ φ2 := fun z => by
      have := f12.new a z hn
      rw [upd_same] at this
      cases this
    have r1' := r1.fr f2
    cases r1' <;> try exact w2.elim
    rename_i i
    refine ⟨hH2, [(.inl i, y)], rfl, Nat.le_of_ble_eq_true rfl, ?_⟩
    have K2 : Keeps H2 (L2.upd H2 a (.dK [(.inl i, y)])) := upd_keepsD hH2
    have fF : Fr φ H (φ2 ++ [a]) (L2.upd H2 a (.dK [(.inl i, y)])) := (((f0.trans f12).mutD (u := .dK [(.inl i, y)]) ha)).addD ha
    refine p.ok (φ2 ++ [a]) _ _ (M2 ++ [.dict [(i, e)]]) _ fF ?_ (.ref (by rw [← m2.len, List.getElem?_append_right (Nat.le_refl _), Nat.sub_self]; rfl)) w2
    refine ⟨by rw [List.length_append, List.length_append, m2.len]; rfl, nd_snoc1 m2.nd hn2, fun n o b e1 e2 => ?_⟩
    have kl := m2.len
    rcases app_get e2 with k2 | ⟨k2, p2⟩
    · have l2 := (List.getElem?_eq_some_iff.mp k2).1
      rw [List.getElem?_append_left (by omega)] at e1
      exact rmo_tups (List.prefix_append _ _) K2 (m2.at_ n o b e1 k2) (upd_ne (fun z => hn2 (by rw [← z]; exact mem_of_get k2)))
    · rw [k2, kl, List.getElem?_append_right (Nat.le_refl _), Nat.sub_self] at e1
      cases e1
      rw [p2]
      exact ⟨_, upd_same, .cons (r2.tups (List.prefix_append _ _) K2) .nil⟩
end Sl
/-! S10: setdefault. -/
namespace Sl
open PySem PySem.Spec PyProof.Rows L2
theorem de_setdefault {X : Cx} {cv : Nat → Value} {W : WX} {O : Oracle} {o e f : Expr} {lo le lf : LE} {apos cpos : Pos} (ho : PE X o (tOf X.K cv W (wE O lo))) (he : PE X e (tOf X.K cv W (wE O le))) (hf : PE X f (tOf X.K cv W (wE O lf)))
    (m : M2 X o "setdefault" apos e f cpos := by exact ⟨rfl, rfl, rfl, rfl⟩) : PE X (.Call (.Attribute o "setdefault" apos) [e, f] [] cpos) (tOf X.K cv W (wE O (.meth .setdefault lo (.cons le (.cons lf .nil))))) :=
  PE.imp (pe_dsetd ho he hf m) fun sv H Q ⟨φ, σ, M, Qp, Ep, rs, m, w, p, px⟩ => by
    rw [wE] at w
    refine tOf.step rs m w px fun φ1 x d M1 H1 f1 rs1 m1 r1 px1 w1 => ?_
    obtain ⟨⟨n, kvs, rfl, hM⟩, w1⟩ := w1
    cases r1 with
    | @ref a n fa =>
      obtain ⟨vs, q, t⟩ := m1.at_ n _ a hM fa
      refine ⟨a, rfl, .inl ⟨vs, .inl q⟩, ?_⟩
      rw [wA] at w1
      refine tOf.step rs1 m1 w1 px1 fun φ2 y dy M2 H2 f2 rs2 m2 r2 px2 w2 => ?_
      rw [wA] at w2
      refine tOf.step rs2 m2 w2 px2 fun φ3 z dz M3 H3 f3 rs3 m3 r3 px3 w3 => ?_
      rw [wA] at w3
      have fa3 := pre_get (f2.trans f3).pre fa
      have f13 := (f1.trans f2).trans f3
      have r2' := r2.fr f3
      cases r2' <;> try exact w3.elim
      rename_i i
      simp only [meth2] at w3
      cases hM3 : M3[n]? with
      | none => rw [hM3] at w3; exact w3.elim
      | some ob =>
        rw [hM3] at w3
        cases ob with
        | dict kvs3 =>
          simp only [] at w3
          obtain ⟨vs3, q3, t3⟩ := m3.at_ n _ a hM3 fa3
          obtain ⟨hl, w3⟩ := w3
          refine ⟨vs3, .inl i, q3, rfl, by rw [t3.len]; exact szl hl, fun v hv => ?_, fun hv => ?_⟩
          · have g := t3.get i
            cases hd : dget kvs3 i with
            | none => rw [hd] at g; rw [g] at hv; cases hv
            | some d' =>
              rw [hd] at g w3
              obtain ⟨w, hw, rw'⟩ := g
              rw [hw] at hv
              cases hv
              exact p.ok φ3 _ _ M3 H3 f13 m3 rw' w3
          · have g := t3.get i
            cases hd : dget kvs3 i with
            | some d' =>
              rw [hd] at g
              obtain ⟨w, hw, rw'⟩ := g
              rw [hw] at hv
              cases hv
            | none =>
              rw [hd] at w3
              have fr := Fr.upd (u' := .dK (putK vs3 (Sum.inl i) z)) (mem_of_get fa3) q3 (fun _ z => by cases z) (fun _ _ z => by cases z)
              exact p.ok φ3 _ _ _ _ (f13.trans fr) (m3.upd (o' := .dict (dput kvs3 i dz)) hM3 fa3 q3 (fun _ z => by cases z) (fun _ _ z => by cases z) ⟨_, upd_same, (t3.put r3).fr fr⟩) (r3.fr fr) w3
        | _ => exact w3.elim
end Sl
/-! S11: str(n), int(word), split, join. -/
namespace Sl
open PySem PySem.Spec PyProof.Rows L2
theorem figs_num : ∀ (k n : Nat), n < k → figs k n = TL.numL n
  | 0, n, h => absurd h (Nat.not_lt_zero _)
  | k + 1, n, h => by
    rw [figs]
    by_cases c : n < 10
    · rw [if_pos c, TL.numL_lt c]
    · rw [if_neg c, TL.numL_step (by omega), figs_num k (n / 10) (by omega)]
theorem str_num {i : Int} (h : 0 ≤ i) : (Str.ofString (toString i)) = sOf (itos i) := by
  obtain ⟨n, rfl⟩ := Int.eq_ofNat_of_zero_le h
  refine TL.ext_tl ?_
  rw [TL.tl_num]
  unfold itos
  rw [if_neg (by omega), Int.natAbs_natCast, figs_num _ _ (Nat.lt_succ_self n)]
  rfl
theorem fromFigs_val (s : List Nat) : fromFigs s = NumText.digitsVal s := by
  unfold fromFigs NumText.digitsVal
  congr 1
  funext n c
  rw [Nat.mul_comm]
theorem spl_split (c : Nat) : ∀ (s acc : List Nat), TL.spl [c] 0 acc s = match splitC c s with
    | p :: ps => (acc ++ p) :: ps
    | [] => [acc]
  | [], acc => by
    show [acc] = [acc ++ []]
    rw [List.append_nil]
  | x :: r, acc => by
    have ih := spl_split c r
    have hpre : TL.pre [c] (x :: r) = decide (x = c) := by
      by_cases e : x = c
      · subst e
        rw [decide_eq_true rfl]
        exact TL.pre_self [x] r
      · rw [decide_eq_false e]
        exact TL.pre_of_head _ _ (fun z => e z)
    rw [splitC]
    by_cases e : x = c
    · rw [if_pos e, TL.spl_hit (by rw [hpre, decide_eq_true e])]
      show acc :: TL.spl [c] 0 [] r = (acc ++ []) :: splitC c r
      rw [List.append_nil, ih []]
      cases hs : splitC c r with
      | nil =>
        exfalso
        cases r with
        | nil => cases hs
        | cons y r =>
          rw [splitC] at hs
          split at hs
          · cases hs
          · split at hs <;> cases hs
      | cons p ps => rfl
    · rw [if_neg e]
      have h2 : TL.spl [c] 0 acc (x :: r) = TL.spl [c] 0 (acc ++ [x]) r := by
        show (if TL.pre [c] (x :: r) = true then _ else TL.spl [c] 0 (acc ++ [x]) r) = _
        rw [hpre, if_neg (by rw [decide_eq_false e]; exact Bool.false_ne_true)]
      rw [h2, ih (acc ++ [x])]
      cases splitC c r with
      | nil => rfl
      | cons p ps =>
        show (acc ++ [x] ++ p) :: ps = (acc ++ (x :: p)) :: ps
        rw [List.append_assoc]
        rfl
theorem splitC_ne (c : Nat) : ∀ s : List Nat, splitC c s ≠ []
  | [] => by simp [splitC]
  | x :: r => by
    rw [splitC]
    split
    · simp
    · split <;> simp
theorem split_sOf {c : Nat} {s : List Nat} (hc : c < 256) : Txt.split (sOf s) (sOf [c]) = (splitC c s).map sOf := by
  refine TL.map_tl_inj ?_
  have hk : (sOf [c]).cps.all (· < 256) = true := by
    show ([c].toArray).all (· < 256) = true
    rw [← Array.all_toList]
    show (decide (c < 256) && true) = true
    rw [decide_eq_true hc]
    rfl
  have e1 : TL.tl (sOf [c]) = [c] := rfl
  rw [TL.split_spl _ _ (by rw [e1]; simp) (TL.kind_ok hk), e1, List.map_map]
  show TL.spl [c] 0 [] s = (splitC c s).map (TL.tl ∘ sOf)
  have e2 : (TL.tl ∘ sOf) = id := rfl
  rw [e2, List.map_id, spl_split]
  cases h : splitC c s with
  | nil => exact absurd h (splitC_ne c s)
  | cons p ps => rfl
theorem joinC_L (sep : List Nat) : ∀ ps : List (List Nat), joinC sep ps = TL.joinL sep ps
  | [] => rfl
  | [p] => rfl
  | p :: q :: r => by
    show p ++ sep ++ joinC sep (q :: r) = p ++ (sep ++ TL.joinL sep (q :: r))
    rw [joinC_L sep (q :: r), List.append_assoc]
theorem join_sOf {sep : List Nat} {ps : List (List Nat)} : Txt.join (sOf sep) (ps.map sOf) = sOf (joinC sep ps) := by
  refine TL.ext_tl ?_
  rw [TL.join_eq, TL.tl_join, List.map_map, joinC_L]
  show TL.joinL sep (ps.map (TL.tl ∘ sOf)) = TL.joinL sep ps
  have e2 : (TL.tl ∘ sOf) = id := rfl
  rw [e2, List.map_id]
theorem strsOf_eq : ∀ {ds : List D} {ss : List (List Nat)}, strsOf ds = some ss → ds = ss.map .str
  | [], _, h => by cases h; rfl
  | d :: r, ss, h => by
    cases d <;> first | (cases h; done) | skip
    rename_i s
    rw [strsOf] at h
    cases hr : strsOf r with
    | none => rw [hr] at h; cases h
    | some ts =>
      rw [hr] at h
      cases h
      rw [strsOf_eq hr]
      rfl
theorem rep_strs {K : PySem.W.Frag} {H : Hp} {φ : List Addr} : ∀ ss : List (List Nat), Reps K H φ ((ss.map sOf).map V.str) (ss.map D.str)
  | [] => .nil
  | s :: r => .cons (.str s) (rep_strs r)
theorem strs_rep2 {K : PySem.W.Frag} {H : Hp} {φ : List Addr} : ∀ {vs : List V} {ss : List (List Nat)}, Reps K H φ vs (ss.map D.str) → vs = (ss.map sOf).map V.str
  | _, [], .nil => rfl
  | _, s :: r, .cons h t => by
    cases h
    rw [strs_rep2 t]
    rfl
section
variable {X : Cx}
theorem cd_str : CallD X (.type "str") (bi2 .str) := by
  intro pins s sv H xs us φ M ds Q Qp I rv m r h p
  match ds, r, h with
  | [.int i], r, h =>
    obtain ⟨x, rfl, rx⟩ := one_of r
    cases rx
    obtain ⟨h0, h1, h⟩ := h
    refine call_str_int pins s sv H _ us Q I rv ⟨i, rfl, ?_, ?_⟩
    · by_cases z : i.natAbs = 0
      · rw [z]; decide
      · have := (Nat.log2_lt z).mpr h1
        omega
    · have e : (Str.ofString (toString i)) = sOf (itos i) := str_num h0
      show Q (.str (Str.ofString (toString i))) H
      rw [e]
      exact p.here m (.str _) h
  | [], _, h => exact h.elim
  | [.non], _, h => exact h.elim
  | [.bool _], _, h => exact h.elim
  | [.str _], _, h => exact h.elim
  | [.tup _], _, h => exact h.elim
  | [.lv _], _, h => exact h.elim
  | [.ref _], _, h => exact h.elim
  | [.exc _ _], _, h => exact h.elim
  | [.kl _], _, h => exact h.elim
  | z :: _ :: _, _, h => exact (by cases z <;> exact h.elim)
theorem cd_parse : CallD X (.type "int") (bi2 .parse) := by
  intro pins s sv H xs us φ M ds Q Qp I rv m r h p
  match ds, r, h with
  | [.str z], r, h =>
    obtain ⟨x, rfl, rx⟩ := one_of r
    cases rx
    obtain ⟨h0, h1, h2, h⟩ := h
    have hd : NumText.AllDigits (sOf z).cps.toList := fun c hc => by
      have hc : c ∈ z := hc
      unfold isFigs at h0
      rw [List.all_eq_true] at h0
      exact of_decide_eq_true (h0 c hc)
    have hl : (sOf z).length = z.length := TL.len_tl _
    have e := intText_digits (x := sOf z) hd h1 (by rw [hl]; omega)
    refine call_int_str pins s sv H _ us Q I rv ⟨sOf z, _, rfl, e, by rw [hl]; omega, ?_⟩
    have e2 : ((NumText.digitsVal (sOf z).cps.toList : Nat) : Int) = ((fromFigs z : Nat) : Int) := by rw [fromFigs_val]; rfl
    rw [e2]
    exact p.here m (.int _) h
  | [], _, h => exact h.elim
  | [.non], _, h => exact h.elim
  | [.bool _], _, h => exact h.elim
  | [.int _], _, h => exact h.elim
  | [.tup _], _, h => exact h.elim
  | [.lv _], _, h => exact h.elim
  | [.ref _], _, h => exact h.elim
  | [.exc _ _], _, h => exact h.elim
  | [.kl _], _, h => exact h.elim
  | z :: _ :: _, _, h => exact (by cases z <;> exact h.elim)
theorem md_split : MtD X "str.split" (meth2 .split) := by
  intro pins s sv H x xs v us φ M d es Q Qp I rv rs m rx r h p
  have key : ∃ t c, d = .str t ∧ es = [.str [c]] := by
    cases d <;> first | exact h.elim | skip
    match es, h with
    | [.str [c]], _ => exact ⟨_, c, rfl, rfl⟩
    | [], h => exact h.elim
    | [.str []], h => exact h.elim
    | [.str (_ :: _ :: _)], h => exact h.elim
    | [.non], h => exact h.elim
    | [.bool _], h => exact h.elim
    | [.ref _], h => exact h.elim
    | [.int _], h => exact h.elim
    | [.tup _], h => exact h.elim
    | [.lv _], h => exact h.elim
    | [.exc _ _], h => exact h.elim
    | [.kl _], h => exact h.elim
    | z :: _ :: _, h => exact (by cases z with | str y => (cases y with | nil => exact h.elim | cons a b => (cases b <;> exact h.elim)) | _ => exact h.elim)
  obtain ⟨t, c, rfl, rfl⟩ := key
  obtain ⟨y, rfl, ry⟩ := one_of r
  cases ry
  cases rx
  obtain ⟨h0, h1, h⟩ := h
  have hl : (sOf t).length = t.length := TL.len_tl _
  refine mt_split pins s sv H _ _ v us Q I rv rs ⟨sOf t, sOf [c], rfl, rfl, rfl, ?_, fun q hq => ?_⟩
  · rw [hl]
    have : lim + 2 ≤ sizeLine := by decide
    omega
  · rw [split_sOf h1]
    exact p.lst m (rep_strs _) h hq
theorem md_join : MtD X "str.join" (meth2 .join) := by
  intro pins s sv H x xs v us φ M d es Q Qp I rv rs m rx r h p
  have key : ∃ t n, d = .str t ∧ es = [.ref n] := by
    cases d <;> first | exact h.elim | skip
    match es, h with
    | [.ref n], _ => exact ⟨_, n, rfl, rfl⟩
    | [], h => exact h.elim
    | [.str _], h => exact h.elim
    | [.non], h => exact h.elim
    | [.bool _], h => exact h.elim
    | [.int _], h => exact h.elim
    | [.tup _], h => exact h.elim
    | [.lv _], h => exact h.elim
    | [.exc _ _], h => exact h.elim
    | [.kl _], h => exact h.elim
    | z :: _ :: _, h => exact (by cases z <;> exact h.elim)
  obtain ⟨t, n, rfl, rfl⟩ := key
  obtain ⟨y, rfl, ry⟩ := one_of r
  cases rx
  cases ry with
  | @ref a n f =>
    simp only [meth2] at h
    cases hM : M[n]? with
    | none => rw [hM] at h; exact h.elim
    | some o =>
      rw [hM] at h
      cases o with
      | lst ds =>
        obtain ⟨vs, q, rr⟩ := m.sq hM f
        simp only [] at h
        cases hs : strsOf ds with
        | none => rw [hs] at h; exact h.elim
        | some ss =>
          rw [hs] at h
          simp only [] at h
          have e := strsOf_eq hs
          subst e
          have ev := strs_rep2 rr
          subst ev
          refine mt_join pins s sv H _ _ v us Q I rv rs ⟨sOf t, a, ss.map sOf, rfl, rfl, .inl q, ?_, ?_⟩
          · have e1 : ((ss.map sOf).map (·.length)) = ss.map (·.length) := by
              rw [List.map_map]
              exact List.map_congr_left fun z _ => TL.len_tl _
            rw [e1, List.length_map, show (sOf t).length = t.length from TL.len_tl _]
            exact Nat.le_trans h.1 (by decide)
          · rw [join_sOf]
            exact p.here m (.str _) h.2
      | _ => exact h.elim
end
/-- a way that is never taken -/
theorem ds_never {X : Cx} {cv : Nat → Value} {W : WX} {O : Oracle} {st : Stmt} : PS X st (tsOf X.K cv W (wS O (.expr (.idx (.con .non) (.con .non))))) := PSt.imp ps_never fun D sv H ⟨φ, σ, M, En, rs, m, w, p⟩ => by
  rw [wS, wE, wE, wE] at w
  exact w.elim
end Sl
/-! S12: errors: raise, try, isinstance of what is handled, a def called there. -/
namespace Sl
open PySem PySem.Spec PyProof.Rows L2
abbrev vErr : List Value := [.type "ValueError", .type "Exception", .type "BaseException", .type "object"]
/-- a name of a class of errors -/
structure Xc (K : PySem.W.Frag) (mg : Str → Option Value) (x : Str) (v : Value) : Prop where
  ex : ∃ C : Addr, v = .ref C ∧ mg x = some (.ref C) ∧ PySem.W.keepIn K (.ref C) = true
/-- a class whose instances are raised -/
structure Xr (K : PySem.W.Frag) (v : Value) : Prop where
  ex : ∃ C : Addr, v = .ref C ∧ PySem.W.excIn K C vErr "ValueError.__new__" = true ∧ PySem.W.subIn K (.ref C) (.type "BaseException") = some true ∧ PySem.W.typeIn K (.ref C) = some (.type "type") ∧ ExcC K C
theorem RS.gone {K : PySem.W.Frag} {φ : List Addr} {H : Hp} {sv : St} {σ : Sl.Loc} (h : RS K H φ sv σ) (i : Nat) : RS K H φ (sv.set i none) (σ.set i none) := h.wipe [i]
section
variable {X : Cx} {cv tv : Nat → Value} {W : WX} {O : Oracle}
theorem ds_raise {c : Nat} {x m : Str} {j : Nat} {p p2 cp pos : Pos} (C : Xc X.K X.mg x (cv c)) (R : Xr X.K (cv c)) (hc : X.calm = true) (tk : L2N.Takes X W) (hg : Gl X x := by rfl) (hdb : (x == ("__debug__" : Str)) = false := by decide) :
    PS X (.Raise (some (.Call (.Name x p) [.Constant (.str m) j p2] [] cp)) none pos) (tsOf X.K cv W (wS O (.raise c))) := by
  obtain ⟨C1, e1, gC, kC⟩ := C.ex
  obtain ⟨C2, e2, q, hb, ht, _⟩ := R.ex
  have e3 := e1.symm.trans e2
  cases e3
  refine PSt.imp (L2N.ps_raise hc tk (L2N.pmk_own PySem.F.excBase_ValueError q gC kC (raises_own hb ht) hg hdb)) fun D sv H ⟨φ, σ, M, En, rs, m, w, p⟩ => ?_
  rw [wS] at w
  have z := p.ex φ c σ M sv H (Fr.refl _ _) rs m w
  rw [e1] at z
  exact z
/-- one reading for each class -/
theorem pss_ex {sts : List Stmt} {t : Nat → TS} {p : Nat → Prop} (h : ∀ c, p c → PSs X sts (t c)) : PSs X sts (fun D sv H => ∃ c, p c ∧ t c D sv H) := ⟨fun pins s sv H D I ⟨c, hp, q⟩ => (h c hp).run pins s sv H D I q⟩
theorem ds_try {i cls : Nat} {x n : Str} {body suite : List Stmt} {b₀ : Stmt} {np pos pos' : Pos} {lb lh : LS} (hs : X.stack = X.env :: X.outer) (hf : X.env.frame = some X.env.locals) (hN : X.N.Nodup) (hc : Names X x (tv cls)) (tk : L2N.Takes X W)
    (hx : ∀ c, PySem.W.exmOne X.K (cv c) (tv cls) = some (excLe c cls))
    (hb : ∀ (W : WX) (pn : List (Addr × Obj)) (xe : Value → Shared → Prop), L2N.Takes (X.tr pn xe) W → PassesOwn (model X.prog X.w) X.A X.env xe → PSs (X.tr pn xe) body (tsOf X.K cv W (wS O lb)))
    (hsu : ∀ (a : Addr) (oe : Obj) (pn : List (Addr × Obj)) (c : Nat), L2N.Zn (cv c) none oe → (∃ vs, oe.data = .fields vs) → PSs (X.suite a ((a, oe) :: pn)) (b₀ :: suite) (tsOf X.K cv W0 (wS (O.ex c a) lh)))
    (hi : X.N[i]? = some n := by rfl) (hln : X.env.kindOf n = some .local := by rfl) :
    PS X (.Try body [.ExceptHandler (some (.Name x np)) (some n) (b₀ :: suite) pos'] [] [] pos) (tsOf X.K cv W (wS O (.tryx lb cls (some i) lh))) := by
  refine PSt.imp (L2N.ps_try_as (i := i) (c := tv cls) (tb := fun W => tsOf X.K cv W (wS O lb)) (ts := fun a v d D sv H => ∃ c, (v = cv c ∧ d = none) ∧ tsOf X.K cv W0 (wS (O.ex c a) lh) D sv H) hs hf hN hi hln hc tk hb
    fun a oe v d pn hz hd => pss_ex fun c e => ?_) fun D sv H ⟨φ, σ, M, En, rs, m, w, p⟩ => ?_
  · obtain ⟨e1, e2⟩ := e
    subst e1 e2
    exact hsu a oe pn c hz hd
  · rw [wS] at w
    refine ⟨φ, σ, M, _, rs, m, w, ⟨p.nx, p.rt, fun φ' c σ' M' sv' H' f' rs' m' q => ?_⟩⟩
    refine ⟨excLe c cls, hx c, fun hy a ha => ?_, fun hn => ?_⟩
    · dsimp only at q
      rw [hy] at q
      exact ⟨c, ⟨rfl, rfl⟩, φ', _, M', _, rs'.set (.exc a c), m', q a, ⟨fun φ'' σ'' M'' sv'' H'' f'' rs'' m'' q'' => p.nx _ _ M'' _ H'' (f'.trans f'') (rs''.gone i) m'' q'', fun φ'' v d M'' H'' f'' => p.rt φ'' v d M'' H'' (f'.trans f''), fun _ _ _ _ _ _ _ _ _ z => z⟩⟩
    · dsimp only at q
      rw [hn] at q
      exact p.ex φ' c σ' M' sv' H' f' rs' m' q
/-- isinstance(e, c): e the error that is handled, its object pinned -/
theorem isE_any {a D : Addr} {oe : Obj} (C : ExcC X.K D) (hp : (a, oe) ∈ X.pn) (hz : L2N.Zn (.ref D) none oe) (hf : ∃ vs, oe.data = .fields vs) : CallR X (.builtin "isinstance") (rIsE X.K D a) := fun pins s σ H xs us Q I r h => by
  obtain ⟨c, u2, b, rfl, hu, e, q⟩ := h
  match us, r with
  | [_, t], .cons rx (.cons rt .nil) =>
    have rx : _ = Value.ref a := rx
    subst rx
    have e2 := hu _ rt
    subst e2
    have get := (I.pin (a, oe) (List.mem_append_left _ hp)).1
    have at_ : PySem.W.InstAt s.heap a oe D none := by
      obtain ⟨vs, hv⟩ := hf
      cases oe
      obtain ⟨z1, z2, _⟩ := hz
      dsimp only at z1 z2 hv
      subst z1 z2 hv
      exact ⟨get, rfl, rfl, trivial⟩
    exact PySem.W.kia_one (PySem.W.handS_kitx_exc C.hg C.hk C.hs C.hd C.ha C.hn C.ht C.hm) I.kIn at_ e (fun z => nomatch z) fun tk => ⟨.bl b, H, I.kept (t' := tk) fun _ _ z => z, rfl, q⟩
theorem de_isE {c : Nat} {a : Addr} {oe : Obj} (t : Nat) {e : Expr} {le : LE} {x tn : Str} {p p' pos : Pos} {v : V} (hm : X.mg x = none) (hp : (a, oe) ∈ X.pn) (hz : L2N.Zn (cv c) none oe) (hd : ∃ vs, oe.data = .fields vs) (R : Xr X.K (cv c)) (kt : PySem.W.kitOne X.K (cv c) (tv t) = some (excLe c t))
    (ha : PE X e (tOf X.K cv W (wE (O.ex c a) le))) (ht : PE X (.Name tn p') (tC v)) (hv : ∀ u, RelV v u → u = tv t) (hg : Gl X x := by rfl) (hb : bootBuiltins x = some (.builtin "isinstance") := by decide +kernel) (hn : x ≠ "__name__" := by decide)
    (hdb : (x == ("__debug__" : Str)) = false := by decide) (he : starEach [e, .Name tn p'] X.env = (false, eval e X.env) :: starEach [.Name tn p'] X.env := by rfl) :
    PE X (.Call (.Name x p) [e, .Name tn p'] [] pos) (tOf X.K cv W (wE (O.ex c a) (.call 999 (.cons le (.cons (.con (.int (t : Nat))) .nil))))) := by
  obtain ⟨D, eD, _, _, _, C⟩ := R.ex
  rw [eD] at hz kt
  refine PE.imp (pe_callB (isE_any C hp hz hd) hg hm hb (pa_cons ha (pa_cons ht pa_nil) he) hn hdb he rfl) fun sv H Q ⟨φ, σ, M, Qp, Ep, rs, m, w, p, px⟩ => ?_
  rw [wE, wA] at w
  refine tOf.step rs m w px fun φ1 y d M1 H1 f1 rs1 m1 r1 px1 w1 => ?_
  rw [wA, wE, wA] at w1
  unfold Oracle.ex at w1
  rw [if_pos rfl] at w1
  cases r1 <;> try exact w1.elim
  obtain ⟨e1, e2, w1⟩ := w1
  subst e1 e2
  exact ⟨v, tv t, _, rfl, hv, kt, p.ok φ1 _ _ M1 H1 f1 m1 (.bl _) (by rw [Int.toNat_natCast] at w1; exact w1)⟩
theorem cx_noH {P : Program} {w : World} {outer : List Env} {H : Hp} {s : Shared} {e : Value} {s' : Shared} (h : L2N.CX P w outer H s (fun _ _ _ => False) e s') : False := by
  obtain ⟨_, _, _, _, _, _, _, _, _, _, _, _, z⟩ := h
  exact z
/-- a class's name -/
theorem pe_cls {tn : Str} {t : Nat} {p' : Pos} (C : Xc X.K X.mg tn (tv t)) (hg : Gl X tn := by rfl) (hdb : (tn == ("__debug__" : Str)) = false := by decide) : ∃ v, PE X (.Name tn p') (tC v) ∧ ∀ u, RelV v u → u = tv t := by
  obtain ⟨C1, e1, gC, _⟩ := C.ex
  exact ⟨.ref C1, pe_glob hg gC rfl hdb, fun u r => by rw [e1]; exact r⟩
theorem pe_clsB {tn : Str} {t : Nat} {p' : Pos} {T : String} (e : tv t = .type T) (hm : X.mg tn = none) (hg : Gl X tn := by rfl) (hv : bootBuiltins tn = some (.type T) := by decide +kernel) (hn : tn ≠ "__name__" := by decide) (hdb : (tn == ("__debug__" : Str)) = false := by decide) :
    ∃ v, PE X (.Name tn p') (tC v) ∧ ∀ u, RelV v u → u = tv t := ⟨.ty T, pe_ty hm hg hv hn hdb, fun u r => by rw [e]; exact r⟩
theorem disE {c : Nat} {a : Addr} {oe : Obj} (t : Nat) {e : Expr} {le : LE} {x tn : Str} {p p' pos : Pos} (hm : X.mg x = none) (hp : (a, oe) ∈ X.pn) (hz : L2N.Zn (cv c) none oe) (hd : ∃ vs, oe.data = .fields vs) (R : Xr X.K (cv c)) (kt : PySem.W.kitOne X.K (cv c) (tv t) = some (excLe c t))
    (ha : PE X e (tOf X.K cv W (wE (O.ex c a) le))) (ht : ∃ v, PE X (.Name tn p') (tC v) ∧ ∀ u, RelV v u → u = tv t) (hg : Gl X x := by rfl) (hb : bootBuiltins x = some (.builtin "isinstance") := by decide +kernel) (hn : x ≠ "__name__" := by decide)
    (hdb : (x == ("__debug__" : Str)) = false := by decide) (he : starEach [e, .Name tn p'] X.env = (false, eval e X.env) :: starEach [.Name tn p'] X.env := by rfl) :
    PE X (.Call (.Name x p) [e, .Name tn p'] [] pos) (tOf X.K cv W (wE (O.ex c a) (.call 999 (.cons le (.cons (.con (.int (t : Nat))) .nil))))) := by
  obtain ⟨v, h1, h2⟩ := ht
  exact de_isE t hm hp hz hd R kt ha h1 h2 hg hb hn hdb he
end
theorem Xc.nm {K : PySem.W.Frag} {mg : Str → Option Value} {x : Str} {v : Value} (h : Xc K mg x v) : mg x = some v := by
  obtain ⟨C, e, g, _⟩ := h.ex
  rw [e]
  exact g
/-! ### the classes by their numbers -/
theorem excN_mem (c : Nat) : excN c ∈ rcs := by
  unfold excN
  split
  · assumption
  · decide
theorem excN_idem (c : Nat) : excN (excN c) = excN c := by
  have h := excN_mem c
  generalize excN c = d at h
  unfold excN
  rw [if_pos h]
def cvL (vs : List (Nat × Value)) (c : Nat) : Value := ((vs.find? fun p => p.1 == excN c).map (·.2)).getD .none
def tvL (vs : List (Nat × Value)) (c : Nat) : Value := ((vs.find? fun p => p.1 == c).map (·.2)).getD .none
theorem cvL_N (vs : List (Nat × Value)) (c : Nat) : cvL vs (excN c) = cvL vs c := by
  unfold cvL
  rw [excN_idem]
theorem xr_all {K : PySem.W.Frag} {vs : List (Nat × Value)} (h : ∀ c ∈ rcs, Xr K (cvL vs c)) (c : Nat) : Xr K (cvL vs c) := by
  rw [← cvL_N]
  exact h _ (excN_mem c)
theorem kit_all {vs : List (Nat × Value)} {F : Value → Option Bool} {t : Nat} (h : ∀ c ∈ rcs, F (cvL vs c) = some (excLe c t)) (c : Nat) : F (cvL vs c) = some (excLe c t) := by
  have e : excLe (excN c) t = excLe c t := by
    unfold excLe
    rw [excN_idem]
  rw [← cvL_N, ← e]
  exact h _ (excN_mem c)
/-! ### the law, which raises nothing -/
def sp0 (K : PySem.W.Frag) (O : Oracle) (f na : Nat) : Sp := fun vs H Q _ => vs.length = na ∧ ∃ φ M ds Qp, RM K H φ M ∧ Reps K H φ vs ds ∧ O f ds M Qp (fun _ _ => False) ∧ Post K φ H Q Qp
theorem sp0_of {K : PySem.W.Frag} {cv : Nat → Value} {O : Oracle} {f na : Nat} {vs : List V} {H : Hp} {Q : VK} {E : XK} (h : sp0 K O f na vs H Q E) : spF K cv O f na vs H Q E := by
  obtain ⟨hl, φ, M, ds, Qp, m, r, w, p⟩ := h
  exact ⟨hl, φ, M, ds, Qp, _, m, r, w, p, fun _ _ _ _ _ _ z => z.elim⟩
theorem fn_imp {P : Program} {w : World} {K : PySem.W.Frag} {mg : Str → Option Value} {base : Heap} {CX : CXT} {k : Nat} {f : Addr} {fd : FuncData} {ps : List Str} {sp sp' : Sp} (F : FnOk P w K mg base CX k f fd ps sp) (h : ∀ vs H Q E, sp' vs H Q E → sp vs H Q E) : FnOk P w K mg base CX k f fd ps sp' :=
  ⟨fun vs H Q E z => F.len vs H Q E (h _ _ _ _ z), fun A outer s H args us vs Q E a b c d z => F.run A outer s H args us vs Q E a b c d (h _ _ _ _ z)⟩
theorem sp0_law {K : PySem.W.Frag} {O : Oracle} {f : Nat} {H : Hp} {a : Addr} {ns : List Int} (hO : Only H) (hS : SqL K H a (ns.map V.int)) (hw : O f [.kl (ns.map D.int)] [] (fun d _ => d = .bool true) (fun _ _ => False)) :
    sp0 K O f 1 [.ref a] H (fun v _ => v = .bl true) fun _ _ _ => False := by
  have ro : ROk K H a (ns.map V.int) := by
    rcases hS with (h | ⟨o, h⟩) | h
    · rcases hO a with q | ⟨o, xs, q⟩ <;> rw [q] at h <;> cases h
    · exact .inl ⟨o, h⟩
    · exact .inr fun H' => .inr h
  have inl : ∀ ns : List Int, Reps K H [] (ns.map V.int) (ns.map D.int) := by
    intro ns
    induction ns with
    | nil => exact .nil
    | cons i r ih => exact .cons (.int i) ih
  refine ⟨rfl, [], [], _, _, ⟨rfl, List.nodup_nil, fun n o a e1 e2 => by cases e2⟩, .cons (.kl ro (inl ns)) .nil, hw, ⟨fun φ' v d M' H' f m' r q => ?_⟩⟩
  subst q
  cases r
  rfl
/-! ### what the classes say of each other -/
theorem kit_ref {K : PySem.W.Frag} {A C : Addr} {b : Bool} (hd : PySem.W.hasDictIn K C = true) (ht : PySem.W.typeIn K (.ref C) = some (.type "type")) (hs : PySem.W.subIn K (.ref C) (.ref C) = some true) (h : PySem.W.subIn K (.ref A) (.ref C) = some b) : PySem.W.kitOne K (.ref A) (.ref C) = some b := by
  unfold PySem.W.kitOne
  by_cases e : ((Value.ref A : Value) == Value.ref C) = true
  · have e2 : (Value.ref A : Value) = Value.ref C := beq_iff_eq.mp e
    rw [e2, hs] at h
    rw [if_pos e]
    exact h
  · rw [if_neg e]
    obtain ⟨cd, hc, _⟩ := PySem.W.any_some hd
    show (if ((PySem.W.clsIn K C).isSome && PySem.W.typeIn K (.ref C) == some (.type "type")) = true then PySem.W.subIn K (.ref A) (.ref C) else none) = _
    rw [if_pos (by rw [hc, ht]; rfl)]
    exact h
theorem kit_val {K : PySem.W.Frag} {A : Addr} (h : PySem.W.subIn K (.ref A) (.type "ValueError") = some true) : PySem.W.kitOne K (.ref A) (.type "ValueError") = some true := by
  unfold PySem.W.kitOne
  rw [if_neg (by intro z; exact Value.noConfusion (beq_iff_eq.mp z))]
  show (if PySem.W.kitMeta "ValueError" = true then _ else none) = _
  rw [if_pos (by decide +kernel)]
  exact h
theorem exm_cls {K : PySem.W.Frag} {A C : Addr} {b : Bool} (hb : PySem.W.subIn K (.ref C) (.type "BaseException") = some true) (hd : PySem.W.hasDictIn K C = true) (ht : PySem.W.typeIn K (.ref C) = some (.type "type")) (h : PySem.W.subIn K (.ref A) (.ref C) = some b) : PySem.W.exmOne K (.ref A) (.ref C) = some b :=
  PySem.W.exm_ref hb hd ht h
end Sl
/-! S13: a for over a list where an error is handled. -/
namespace HotX
open PySem PySem.Spec PyProof.Rows
section
variable {prog : Program} {w : World} {A : Around} {E : Value → Shared → Prop} {s : Shared}
theorem next_list_end {it l x1 : Addr} {i : Nat} {items : Array Value} {Q : Option Value → Shared → Prop} (hot : HotAt A x1 s.heap) (hit : s.heap.IsListIter it l i) (hl : s.heap.IsList l items) (hx : items[i]? = none)
    (hQ : ∀ h', (∀ b o, b ≠ it → s.heap.get? b = some o → h'.get? b = some o) → Q none { s with heap := h' }) : wpAny (model prog w) A (pyNext (.ref it)) Q E s := by
  obtain ⟨o, ho, hc, hd⟩ := id hit
  obtain ⟨ol, hol, _, nl, hdl⟩ := hl
  obtain ⟨hh, o1, vs1, h1, d1, c1⟩ := hot
  have hne : x1 ≠ it := fun z => by
    subst z
    rw [ho] at h1
    cases h1
    rw [hd] at d1
    cases d1
    cases c1
  unfold pyNext
  refine wpAny_bind (wpAny_attempt (wpAny_callSpecial?_slot (name := Str.ofString "__next__") hit.typeIs slot_listiter_next
    (wpAny_call_entry slot_listiter_next hit.typeIs entry_listiter_next ?_ (args_listiter_next _))))
  show wpAny _ _ (field (.ref it) 0 >>= _) _ _ s
  refine wpAny_bind (wpAny_field ho hd (x := .ref l) rfl ?_)
  show wpAny _ _ (if (Value.ref l == Value.none) = true then _ else _) _ _ s
  rw [if_neg (show ¬ ((Value.ref l == Value.none) = true) from Bool.false_ne_true)]
  show wpAny _ _ (field (.ref it) 1 >>= _) _ _ s
  refine wpAny_bind (wpAny_field ho hd (x := .int i 0) rfl ?_)
  show wpAny _ _ (seqItems? (.ref l) >>= _) _ _ s
  refine wpAny_bind (wpAny_seqItems hol hdl ?_)
  simp only [Int.toNat_natCast, hx]
  refine wpAny_bind (wpAny_rule (wpAny_bind (wpAny_setField ho hd (by simp) ?_)))
  show wpAny _ _ (newExc (.type "StopIteration") [] >>= _) _ _ _
  refine wpAny_bind ?_
  simp only [newExc, newTuple]
  refine wpAny_bind (wpAny_newObj_type ?_ (by size_fits))
  refine wpAny_bind (m := firstArgMember _ _) (wpAny_of_eq (a := Value.none) (by first | rfl | (simp only [firstArgMember]; rfl)) ?_)
  refine wpAny_newObj_type ?_ (by size_fits)
  have h1' := (Heap.get?_update_other s.heap (Obj.mapFields (·.setIfInBounds 0 .none)) (Ne.symm hne)).trans h1
  refine raiseNew_hot ⟨hh, o1, vs1, Heap.get?_push_of_some _ (Heap.get?_push_of_some _ h1'), d1, c1⟩ (Nat.ne_of_lt (Heap.lt_size (Heap.get?_push_of_some _ h1'))) (Heap.get?_push_size _ rfl) rfl (by first | (simp; done) | (simp; omega) | (simp only [Array.size_append]; simp; omega)) ?_
  refine wpAny_bind (wpAny_isInstance (T := "StopIteration") (b := true) ⟨_, Heap.get?_update_self _ (Heap.get?_push_size _ rfl) rfl, rfl⟩ isSubtype_stop ?_)
  refine wpAny_pure (hQ _ fun b o hb e => ?_)
  have e' := (Heap.get?_update_other s.heap (Obj.mapFields (·.setIfInBounds 0 .none)) (Ne.symm hb)).trans e
  rw [Heap.get?_update_other _ _ (Nat.ne_of_gt (Heap.lt_size (Heap.get?_push_of_some _ e')))]
  exact Heap.get?_push_of_some _ (Heap.get?_push_of_some _ e')
end
end HotX
namespace Sl
open PySem PySem.Spec PyProof.Rows L2 L2H HotX
theorem turn_lstH {P : Program} {w : World} {K : PySem.W.Frag} {tg : Expr} (a it : Addr) : TurnH P w K tg (Itl K a) [it] it (fun i h => h.IsListIter it a i) where
  mem := by simp
  obj := fun i h st b hb => by
    have e : b = it := by simpa using hb
    subst e
    obtain ⟨o, e, c, d⟩ := st
    exact ⟨o, e, fun v z => by rw [d] at z; cases z⟩
  keep := fun i h h' st k => st.at fun o e => k it (by simp) o e
  item := by
    intro X hP hw hK hc i pins s σ H E I hf st hg
    subst hP hw hK
    obtain ⟨xs, x, hq, hx⟩ := hg
    obtain ⟨its, rv, p, hz⟩ := I.list hq
    obtain ⟨u, hu, ru⟩ := rv.get hx
    obtain ⟨f0, f1, f2, f3, f4, f5⟩ := hf it (by simp)
    refine wpAny_pyNext_list_item st p.isList (x := u) (by simpa using hu) fun h' st' sb => ?_
    have I1 : Inv X pins σ H { s with heap := h' } := I.turned (t' := s.toks) (fun b o hb e => (sb.2 b hb).trans e) f0 f1 f3 f4 f5
    obtain ⟨o, e, c, d⟩ := id st'
    exact ⟨u, rfl, go_of (s := { s with heap := h' }) e c d (by decide) ⟨x, H, I1, ru, ⟨rfl, fun ys hy => by rw [I.list_inj hy hq]; exact hx⟩, st', fun b hb => (hf b hb).1⟩⟩
  done := by
    intro X hP hw hK hc i pins s σ H E I hf st hg
    subst hP hw hK
    obtain ⟨xs, hq, hx⟩ := hg
    obtain ⟨its, rv, p, hz⟩ := I.list hq
    obtain ⟨f0, f1, f2, f3, f4, f5⟩ := hf it (by simp)
    have hl := rv.length
    obtain ⟨x1, hot⟩ := hc.at I
    exact next_list_end hot st p.isList (by simp; omega) fun h' eb => ⟨rfl, I.turned (t' := s.toks) (fun b o hb e => eb b o hb e) f0 f1 f3 f4 f5⟩
  self := fun _ _ _ _ _ st h => wpAny_pyIter_listiter st h
section
variable {X : Cx} {tg : Expr}
theorem pi_lstH {l : Expr} {tl : TE} (hl : PE X l tl) : PIH X tg l (iList X.K tl) := by
  refine ⟨fun pins s σ H R I h => ?_⟩
  refine thn (hl.run pins s σ H _ I h) fun v s1 ⟨x, H1, I1, r1, q1⟩ => ?_
  obtain ⟨a, e, ⟨xs, hq⟩, q⟩ := q1
  subst e
  cases r1
  obtain ⟨its, rv, p, hz⟩ := I1.list hq
  refine wpAny_pyIter_list p.isList ?_
  refine ⟨s1.heap.objs.size, [s1.heap.objs.size], _, _, H1, rfl, I1.kept (t' := s1.toks) fun b o e => Heap.get?_push_of_some _ e, turn_lstH a _, ⟨_, Heap.get?_push_size _ rfl, rfl, rfl⟩, fun b hb => ?_, q⟩
  have e : b = s1.heap.objs.size := by simpa using hb
  subst e
  exact I1.fpOk (Nat.le_refl _) (I1.hok.fresh (Nat.le_refl _))
end
section
variable {X : Cx} {cv : Nat → Value} {W : WX} {O : Oracle} {a b c e : Expr} {la lb lc : LE} {pos apos : Pos} {es : List Expr} {las : LA}
theorem dl_lstH {tg : Expr} (ha : PE X a (tOf X.K cv W (wE O la))) : PIH X tg a (tiOf X.K cv W (wSrc O .lst (.cons la .nil))) := ⟨fun pins s sv H R I ⟨φ, σ, M, Qp, Ep, rs, m, w, p, px⟩ => by
  unfold wSrc at w
  rw [wA] at w
  refine (pi_lstH ha).run pins s sv H R I (tOf.step rs m w px fun φ1 x d M1 H1 f1 rs1 m1 r1 px1 w1 => ?_)
  rw [wA] at w1
  cases r1 <;> try exact w1.elim
  rename_i p' n f
  have w1 : (match (match M1[n]? with | some (.lst ds) => some (ds, Hold.live n ds) | _ => none : Option (List D × Hold)) with | some (xs, h) => Qp xs h M1 | none => False) := w1
  cases hM : M1[n]? with
  | none => rw [hM] at w1; exact w1.elim
  | some o =>
    rw [hM] at w1
    cases o with
    | lst ds =>
      obtain ⟨vs, q, t⟩ := m1.sq hM f
      exact ⟨p', rfl, ⟨vs, q⟩, p φ1 _ _ M1 H1 _ f1 m1 w1 (wk_list f)⟩
    | _ => exact w1.elim⟩
end
section
variable {X : Cx} {cv : Nat → Value} {W : WX} {O : Oracle} {a b c e : Expr} {la lb lc : LE} {ls lt : LS} {pos : Pos} {st : Stmt} {sts : List Stmt}
theorem ds_frH {tg iter : Expr} {body : List Stmt} {k : ItK} {src : LA} {t : LT} {g : TG} (hp : PassesOwn (model X.prog X.w) X.A X.env X.xe) (hc : HotC X) (hi : PIH X tg iter (tiOf X.K cv W (wSrc O k src))) (hg : PG X tg g) (tk : TgOk X.K g t)
    (hb : PSs X body (tsOf X.K cv W (wS O ls))) (hs : ∀ x, foldedSetIterable iter X.env x = pure x) : PS X (.For tg iter body [] pos) (tsOf X.K cv W (wS O (.fr t k src ls))) :=
  PSt.imp (ps_forH hp hc hi hg hb hs) fun D sv H ⟨φ, σ, M, En, rs, m, w, p⟩ => by
    rw [wS] at w
    refine ⟨φ, σ, M, fun xs h M1 => wFor h t (wS O ls) En xs σ (h.start M1), _, rs, m, w, fun φ1 xs h M1 H1 J f1 m1 w1 wk => ?_, p.x rs⟩
    dsimp only at w1
    rw [wk.st] at w1
    refine ⟨fun i mm sv2 H2 => mm = xs.length - i ∧ ∃ φ2 σ2 M2, i ≤ xs.length ∧ Fr φ1 H1 φ2 H2 ∧ RS X.K H2 φ2 sv2 σ2 ∧ RM X.K H2 φ2 M2 ∧ wFor h t (wS O ls) En (xs.drop i) σ2 M2, ⟨xs.length, by omega, φ1, σ, M1, Nat.zero_le _, Fr.refl _ _, rs.fr f1, m1, w1⟩, ?_⟩
    rintro i mm sv2 H2 ⟨rfl, φ2, σ2, M2, hle, f2, rs2, m2, wt⟩
    have f12 := f1.trans f2
    by_cases hlt : i < xs.length
    · refine .inr ?_
      have hd : xs[i]? = some xs[i] := List.getElem?_eq_getElem hlt
      rw [List.drop_eq_getElem_cons hlt, wFor] at wt
      obtain ⟨hok, wt⟩ := wt
      obtain ⟨hgo, hy⟩ := wk.goes i _ φ2 M2 H2 f2 m2 hok hd
      refine ⟨hgo, fun sv3 H3 => ∃ φ3 σ3 M3, Fr φ1 H1 φ3 H3 ∧ RS X.K H3 φ3 sv3 σ3 ∧ RM X.K H3 φ3 M3 ∧ wFor h t (wS O ls) En (xs.drop (i + 1)) σ3 M3, fun sv3 H3 ⟨φ3, σ3, M3, q1, q2, q3, q4⟩ => ⟨xs.length - (i + 1), by omega, rfl, φ3, σ3, M3, hlt, q1, q2, q3, q4⟩, fun x H' hyl => ?_⟩
      obtain ⟨fy, my, ry⟩ := hy x H' hyl
      cases ha : asgT t xs[i] σ2 with
      | none => rw [ha] at wt; exact wt.elim
      | some σ' =>
        rw [ha] at wt
        refine tk.run φ2 M2 _ _ σ' H' x _ _ (rs2.fr fy) ry ha fun sv' rs' _ _ => ?_
        have f3 := f12.trans fy
        refine ⟨φ2, σ', M2, _, rs', my, wt, ⟨fun φ4 σ4 M4 sv4 H4 f4 rs4 m4 w4 => ⟨φ4, σ4, M4, (f2.trans fy).trans f4, rs4, m4, w4⟩, fun φ4 v d M4 H4 f4 m4 r4 w4 => ?_, fun φ4 c σ4 M4 sv4 H4 f4 rs4 m4 w4 => ?_⟩⟩
        · have w5 := w4.2
          rw [wk.fi] at w5
          exact p.rt φ4 v d M4 H4 (f3.trans f4) m4 r4 w5
        · have w5 := w4.2
          rw [wk.fi] at w5
          exact p.ex φ4 c σ4 M4 sv4 H4 (f3.trans f4) rs4 m4 w5
    · refine .inl ?_
      have e : i = xs.length := by omega
      subst e
      rw [List.drop_length, wFor] at wt
      obtain ⟨hok, wt⟩ := wt
      rw [wk.fi] at wt
      exact ⟨wk.stops φ2 M2 H2 f2 m2 hok, p.nx φ2 σ2 M2 sv2 H2 f12 rs2 m2 wt⟩
theorem hot_suite {X : Cx} {a : Addr} {oe : Obj} {c : Value} {d : Option Addr} {pn : List (Addr × Obj)} (hz : L2N.Zn c d oe) (hd : ∃ vs, oe.data = .fields vs) : HotC (X.suite a ((a, oe) :: pn)) := by
  obtain ⟨vs, hv⟩ := hd
  exact ⟨(a, oe), ⟨rfl, vs, hv, hz.2.2 vs hv⟩, List.mem_cons_self⟩
theorem takes0N {X : Cx} : L2N.Takes X (fun _ _ _ _ => False) := fun _ _ x => by
  obtain ⟨_, _, _, _, _, _, _, _, _, _, _, _, _, _, _, _, z⟩ := x
  exact z.elim
end
end Sl
/-! S17: errors whose context is a given value; they leave a def, and a comprehension. -/
namespace Sl
open PySem PySem.Spec PyProof.Rows L2
/-! ### what is known of the error's object -/
/-- its context -/
def CtxV (x : Value) (o : Obj) : Prop := ∀ vs : Array Value, o.data = .fields vs → vs[2]? = some x
theorem ctxv_steady (x : Value) : PXN.Steady1 (CtxV x) := fun o v h => by
  rcases o with ⟨cl, dd, dt, sl⟩
  cases dt with
  | fields w0 =>
    intro ws e
    have e1 : w0.setIfInBounds 1 v = ws := Data.fields.inj e
    have h2 : w0[2]? = some x := h w0 rfl
    have e3 : (w0.setIfInBounds 1 v)[2]? = w0[2]? := by simp [Array.getElem?_setIfInBounds]
    rw [← e1]
    exact e3.trans h2
  | _ => intro ws e; cases e
def Zv (x cls : Value) (d : Option Addr) (o : Obj) : Prop := Zc cls d o ∧ CtxV x o
theorem zv_steady {x cls : Value} {d : Option Addr} : PXN.Steady1 (Zv x cls d) :=
  PXN.steady_and (Z := Zc cls d) (Z' := CtxV x) (fun o v h => Zc.steady o _ h) (ctxv_steady x)
section
variable {B h : Heap} {l : List Env} {a L : Addr} {Z Z' : Obj → Prop}
theorem traced_to {fl : Value} (hz : ∀ o, h.get? a = some o → Z o → Z' o) (t : HandSPX.TracedZ h B a Z fl) : HandSPX.TracedZ h B a Z' fl := by
  obtain ⟨o, ws, T, oT, ts, e, z, r⟩ := t
  exact ⟨o, ws, T, oT, ts, e, hz o e z, r⟩
theorem sky_to (hz : ∀ o, h.get? a = some o → Z o → Z' o) (k : Sky B l a Z L h) : Sky B l a Z' L h := by
  rcases k with ⟨q1, q2, q3, o, ws, e, z, r⟩ | ⟨q1, q2, q3, t⟩ | ⟨q1, q2, q3, t⟩
  · exact .inl ⟨q1, q2, q3, o, ws, e, hz o e z, r⟩
  · exact .inr (.inl ⟨q1, q2, q3, traced_to hz t⟩)
  · exact .inr (.inr ⟨q1, q2, q3, traced_to hz t⟩)
theorem sky_obj (k : Sky B l a Z L h) : ∃ o ws, h.get? a = some o ∧ Z o ∧ o.data = .fields ws := by
  rcases k with ⟨_, _, _, o, ws, e, z, r, _⟩ | ⟨_, _, _, o, ws, _, _, _, e, z, r, _⟩ | ⟨_, _, _, o, ws, _, _, _, e, z, r, _⟩ <;> exact ⟨o, ws, e, z, r⟩
end
def HasCtx (x u : Value) (h : Heap) : Prop := ∃ a o, u = .ref a ∧ h.get? a = some o ∧ CtxV x o
/-- an error in the air, its context x -/
def XEv (x : Value) (X : Cx) (W : WX) (u : Value) (s : Shared) : Prop := XE X W u s ∧ HasCtx x u s.heap
def TakesV (x : Value) (X : Cx) (W : WX) : Prop := ∀ u s, XEv x X W u s → X.xe u s
/-- what a call let out -/
def CXv (x : Value) (P : Program) (w : World) (outer : List Env) (H : Hp) (s : Shared) (E : XK) (u : Value) (s' : Shared) : Prop := CX P w outer H s E u s' ∧ HasCtx x u s'.heap
section
variable {X : Cx} {W : WX} {x u : Value} {s s' : Shared}
theorem xev_n (h : L2N.XE X W u s) : XEv .none X W u s := by
  obtain ⟨a, B, sI, pins, sv, H, cls, d, e, I, nb, up, sky, r⟩ := h
  obtain ⟨o, ws, e1, z, e2⟩ := sky_obj sky
  exact ⟨⟨a, B, sI, pins, sv, H, cls, d, e, I, nb, up, sky_to (fun _ _ z => z.zc) sky, r⟩, a, o, e, e1, z.2.2⟩
theorem n_xev (h : XEv .none X W u s) : L2N.XE X W u s := by
  obtain ⟨⟨a, B, sI, pins, sv, H, cls, d, e, I, nb, up, sky, r⟩, a', o, e', e1, cx⟩ := h
  rw [e] at e'
  cases e'
  refine ⟨a, B, sI, pins, sv, H, cls, d, e, I, nb, up, sky_to (fun o' eo z => ?_) sky, r⟩
  rw [e1] at eo
  cases eo
  exact ⟨z.1, z.2, cx⟩
theorem takes_n (tk : L2N.Takes X W) : TakesV .none X W := fun u s h => tk u s (n_xev h)
theorem n_takes (tk : TakesV .none X W) : L2N.Takes X W := fun u s h => tk u s (xev_n h)
theorem TakesV.imp {W' : WX} (tk : TakesV x X W) (h : ∀ cls d sv H, W' cls d sv H → W cls d sv H) : TakesV x X W' := fun u s ⟨⟨a, B, sI, pins, sv, H, cls, d, e, I, nb, up, sky, na, os, ag, w⟩, r⟩ =>
  tk u s ⟨⟨a, B, sI, pins, sv, H, cls, d, e, I, nb, up, sky, na, os, ag, h _ _ _ _ w⟩, r⟩
/-- out of a call -/
theorem xev_call {pins : List (Addr × Obj)} {sv : St} {H : Hp} {E : XK} (I : Inv X pins sv H s) (hW : ∀ cls d H', E cls d H' → W cls d sv H') (c : CXv x X.prog X.w X.stack H s E u s') : XEv x X W u s' := ⟨XE.of_call I hW c.1, c.2⟩
/-- out of a def -/
theorem xev_leave (hs : X.stack = X.env :: X.outer) (hf : X.env.frame = some X.env.locals) (hex : X.ex = []) {E : XK} {E1 : Value → Shared → Prop} (hW : ∀ cls d sv H, W cls d sv H → E cls d H) (h : XEv x X W u s) :
    wpAny (model X.prog X.w) X.A (leaving X.env u) (fun _ t => CXv x X.prog X.w X.outer X.H_0 X.s_0 E u t) E1 s := by
  obtain ⟨⟨a, B, sI, pins, sv, H, cls, d, rfl, I, nb, up, sky, na, os, ag, w⟩, a', o, e', eo, cx⟩ := h
  cases e'
  have skz : Sky B (X.env :: X.outer) a (Zv x cls d) X.env.locals s.heap := by
    rw [← hs]
    refine sky_to (fun o' q z => ?_) sky
    rw [eo] at q
    cases q
    exact ⟨z, cx⟩
  have fr : X.A.frames = some (X.env :: X.outer) := by rw [I.ok.frames, hs]
  have noex : ∀ b, b ∉ X.ex := fun b z => by rw [hex] at z; exact nomatch z
  have old : ∀ b ob, X.s_0.heap.get? b = some ob → b ∉ X.fs → b ∉ frs X.stack := fun b ob q n z => by
    rcases List.mem_cons.mp (I.stkSub b z) with z1 | z1
    · have l1 := Heap.lt_size q
      have l2 := I.ok.above
      rw [z1] at l1
      exact Nat.lt_irrefl _ (Nat.lt_of_lt_of_le l1 l2)
    · exact n z1
  have out : ∀ h', HandSPX.FlyingZ B X.outer a (Zv x cls d) h' → s.heap.UpToSlots h' → CXv x X.prog X.w X.outer X.H_0 X.s_0 E (.ref a) { s with heap := h' } := fun h' fl up' => by
    obtain ⟨o1, ws, q1, z1, _⟩ := fl.there
    refine ⟨⟨a, B, H, cls, d, rfl, ⟨fl.1, fl.2.1, fl.2.2.1, traced_to (fun _ _ z => z.1) fl.2.2.2⟩, I.inGround nb, ?_, na, os.trans I.os, ag, hW _ _ _ _ w⟩, a, o1, rfl, q1, z1.2⟩
    constructor
    · exact fun b ob q n hb => nb b ob (I.base.keep b ob q n hb (noex b)) (old b ob q hb)
    · intro b ob q hb
      obtain ⟨_, o0, q0, nf⟩ := I.ok.funs.mem hb
      rw [q] at q0
      cases q0
      obtain ⟨s1, r1⟩ := I.base.slot b ob q (I.ok.frf b hb) hb (noex b)
      obtain ⟨s2, r2⟩ := up b _ r1 nf
      obtain ⟨s3, r3⟩ := up' b _ r2 nf
      exact ⟨s3, r3⟩
    · exact fun b ob q n => I.base.free b ob q n (noex b)
    · intro b ob q hb
      obtain ⟨o2, r2⟩ := I.base.there b ob q (noex b)
      exact ⟨o2, nb b o2 r2 (old b ob q hb)⟩
    · exact I.base.tups
    · exact I.base.frzs
    · exact I.base.tbls
  rcases skz with ⟨q1, q2, q3, o1, ws, e1, z1, d1, t1⟩ | fl | hd
  · exact PXN.leaving_firstZ zv_steady fr q3 hf e1 q1 q2 d1 t1 z1 out
  · exact PXN.leaves_onZ zv_steady fr hf fl out
  · exact HandSPX.leaves_heldZ hf hd out
theorem takesv_of (hs : X.stack = X.env :: X.outer) (hf : X.env.frame = some X.env.locals) (hex : X.ex = []) {E : XK} {E1 : Value → Shared → Prop}
    (hx : X.xe = fun e t => wpAny (model X.prog X.w) X.A (leaving X.env e) (fun _ t' => CXv x X.prog X.w X.outer X.H_0 X.s_0 E e t') E1 t) : TakesV x X (fun cls d _ H => E cls d H) := fun u s h => by
  rw [hx]
  exact xev_leave (W := fun cls d _ H => E cls d H) (E := E) hs hf hex (fun _ _ _ _ z => z) h
end
/-! ### an error that leaves a comprehension -/
section
variable {M : Model} {A : Around} {E1 : Value → Shared → Prop} {s : Shared} {Z : Obj → Prop} {B : Heap} {env : Env} {outer : List Env} {L e : Addr} {Q : Unit → Shared → Prop}
theorem note_env {v : Value} {env' : Env} (h : env'.frame = env.frame) (w : wpAny M A (noteFrame v env) Q E1 s) : wpAny M A (noteFrame v env') Q E1 s := by
  have q : noteFrame v env' = noteFrame v env := by
    unfold noteFrame PySem.frameOf
    rw [h]
  rw [q]
  exact w
/-- noted by its frame, in whatever hand it was -/
theorem note_held {fl : Value} (hZ : PXN.Steady1 Z) (fr : A.frames = some (env :: outer)) (hf : env.frame = some L) (kb : B.StaysIn s.heap) (ne : B.get? e = none) (ff : s.heap.FunFrames B (env :: outer)) (t : HandSPX.TracedZ s.heap B e Z fl)
    (q : ∀ h', HandSPX.HeldZ B (env :: outer) e Z L h' → s.heap.UpToSlots h' → Q () { s with heap := h' }) : wpAny M A (noteFrame (.ref e) env) Q E1 s := by
  by_cases same : (fl == rawInt L) = true
  · have e1 : fl = rawInt L := beq_iff_eq.mp same
    subst e1
    exact HandSPX.againZ hf t (q _ ⟨kb, ne, ff, t⟩ (Heap.UpToSlots.refl _))
  obtain ⟨o, ws, T, oT, ts, eo, z, dw, t1, nT, Te, eT, dT, t3⟩ := t
  have keepB : ∀ b, b ≠ T → (s.heap.update T (Obj.mapFields (·.setIfInBounds 3 Value.none))).get? b = s.heap.get? b := fun b hb => Heap.get?_update_other _ _ (Ne.symm hb)
  have notT : ∀ b ob, s.heap.get? b = some ob → (∀ vs, ob.data ≠ .fields vs) → b ≠ T := fun b ob eb nf y => by
    subst y
    rw [eT] at eb
    cases eb
    exact nf ts dT
  unfold noteFrame
  simp only [hf]
  refine wpAny_bind (wpAny_field eo dw t1 ?_)
  rw [if_pos (show (Value.ref T != Value.none) = true by simp)]
  refine wpAny_bind (wpAny_field eT dT t3 ?_)
  rw [if_neg same]
  refine wpAny_bind (wpAny_setField eT dT (Array.getElem?_eq_some_iff.mp t3).1 ?_)
  refine PXN.wpAny_entryZ hZ fr (ff.of_keeps fun b ob eb nf => ⟨ob, (keepB b (notT b ob eb nf)).trans eb, rfl⟩) hf ((keepB e (Ne.symm Te)).trans eo) (fun b ob eb => ?_) ne dw (Array.getElem?_eq_some_iff.mp t1).1 z fun h' n => ?_
  · refine (keepB b fun y => ?_).trans (kb b ob eb)
    subst y
    rw [nT] at eb
    cases eb
  · exact q h' ⟨n.1, ne, n.2.1, n.2.2.1⟩ fun b ob eb nf => n.2.2.2 b ob ((keepB b (notT b ob eb nf)).trans eb) nf
theorem note_sky {C : Addr} (hZ : PXN.Steady1 Z) (fr : A.frames = some (env :: outer)) (hf : env.frame = some L) (k : Sky B (env :: outer) e Z C s.heap)
    (q : ∀ h', HandSPX.HeldZ B (env :: outer) e Z L h' → s.heap.UpToSlots h' → Q () { s with heap := h' }) : wpAny M A (noteFrame (.ref e) env) Q E1 s := by
  rcases k with ⟨q1, q2, q3, o1, ws, e1, z1, d1, t1⟩ | ⟨q1, q2, q3, t⟩ | ⟨q1, q2, q3, t⟩
  · exact PXN.look_newZ hZ fr q3 hf e1 q1 q2 d1 t1 z1 q
  · exact note_held hZ fr hf q1 q2 q3 t q
  · exact note_held hZ fr hf q1 q2 q3 t q
end
theorem frames_but {h h' base : Heap} {C : Addr} (k : ∀ b o, b ≠ C → h.get? b = some o → h'.get? b = some o) : ∀ {l : List Env}, h.FunFrames base l → C ∉ frs l → h'.FunFrames base l
  | [], _, _ => trivial
  | env :: r, ⟨q1, ⟨L, o, q2, q3, q4, q5⟩, q6⟩, n => by
    have e : frs (env :: r) = L :: frs r := by unfold frs; rw [List.filterMap_cons, q2]
    rw [e] at n
    exact ⟨q1, ⟨L, o, q2, q3, k L o (fun z => n (by rw [z]; exact List.mem_cons_self)) q4, q5⟩, frames_but k q6 fun z => n (List.mem_cons_of_mem _ z)⟩
/-- a comprehension's block that errors may leave -/
def blkE (X : Cx) (s : Shared) (H : Hp) (scope : Scope) (ce : Env) (fp : List Addr) : Cx := (X.blk s H scope ce fp).tr X.pn (notedBy (model X.prog X.w) X.A ce (CompFails (model X.prog X.w) X.A X.xe ce))
section
variable {X : Cx} {W : WX} {x : Value} {pins : List (Addr × Obj)} {sv : St} {H : Hp} {s : Shared} {scope : Scope} {ce : Env} {fp : List Addr}
theorem takes_blk (tk : TakesV x X W) (hs : X.stack = X.env :: X.outer) (hf : X.env.frame = some X.env.locals) (I : Inv X pins sv H s) (cL : ce.locals = s.heap.objs.size) (cF : ce.frame = X.env.frame) (hfp : ∀ b ∈ fp, FpOk X pins H b) :
    TakesV x (blkE X s H scope ce fp) (fun cls d _ H' => W cls d sv H') := by
  rintro u t ⟨⟨a, B, sI, pins', sv', H', cls, d, rfl, J, nb, up, sky, na, os, ag, w⟩, a', o, e', eo, cx⟩
  cases e'
  have J : Inv (X.blk s H scope ce fp) [] sv' H' sI := ⟨⟨J.ok.mod, J.ok.kind, J.ok.glob, J.ok.blt, J.ok.above, J.ok.inj, J.ok.has, J.ok.cab, J.ok.hd, J.ok.frames, J.ok.stk, J.ok.exf, J.ok.bs, J.ok.bsz, J.ok.noex, J.ok.exfs, J.ok.funs, J.ok.frf⟩, J.os, J.bare, J.base, J.loc, J.cell, J.free, J.freeC, fun p hp => absurd (show p ∈ ([] : List (Addr × Obj)) ++ [] from hp) (by simp), J.hok, J.len⟩
  have fr : X.A.frames = some (X.env :: X.outer) := by rw [I.ok.frames, hs]
  have skz : Sky B (X.env :: X.outer) a (Zv x cls d) ce.locals t.heap := by
    rw [← hs]
    refine sky_to (fun o' q z => ?_) sky
    rw [eo] at q
    cases q
    exact ⟨z, cx⟩
  show wpAny (model X.prog X.w) X.A (noteFrame (.ref a) ce) (fun _ t' => CompFails (model X.prog X.w) X.A X.xe ce (.ref a) t') _ t
  refine note_env cF (note_sky zv_steady fr hf skz fun h2 hd2 up2 => ?_)
  obtain ⟨m, hn, _⟩ := J.loc
  have hn : sI.heap.Ns ce.locals m := hn
  obtain ⟨oC, es, ep, eC, dC, kC⟩ := hn
  have notF : ∀ vs, oC.data ≠ .fields vs := fun vs z => by rw [dC] at z; cases z
  have upC := up.trans up2
  obtain ⟨slC, eC2⟩ := upC _ _ eC notF
  refine ⟨m, ⟨_, es, ep, eC2, dC, kC⟩, fun h3 m3 hn3 sb => ?_⟩
  have nC' : H' ce.locals = none := J.free
  obtain ⟨kb, ne, ff, oa, wa, T, oT, wT, ea, za, da, t1, nT, Ta, eT, dT, t3⟩ := hd2
  have aC : a ≠ ce.locals := fun z => by
    rw [z, eC2] at ea
    cases ea
    exact notF _ da
  have TC : T ≠ ce.locals := fun z => by
    rw [z, eC2] at eT
    cases eT
    exact notF _ dT
  have same : ∀ b, b ≠ ce.locals → h3.get? b = h2.get? b := fun b hb => sb.2 b hb
  obtain ⟨B2, hB2⟩ : ∃ B2, PySem.W.hideAll B [ce.locals] = B2 := ⟨_, rfl⟩
  have inB : ∀ b ob, B2.get? b = some ob → B.get? b = some ob ∧ b ≠ ce.locals := fun b ob q => by
    rw [← hB2] at q
    refine ⟨PySem.W.of_hideAll _ q, fun z => ?_⟩
    rw [PySem.W.hideAll_none _ (by rw [z]; exact List.mem_singleton.mpr rfl)] at q
    cases q
  have toB : ∀ b ob, B.get? b = some ob → b ≠ ce.locals → B2.get? b = some ob := fun b ob q n => by
    rw [← hB2]
    exact PySem.W.hideAll_get _ q fun z => n (List.mem_singleton.mp z)
  have noB : ∀ b, B.get? b = none → B2.get? b = none := fun b q => by
    cases r : B2.get? b with
    | none => rfl
    | some ob =>
      rw [(inB b ob r).1] at q
      cases q
  have nS : ce.locals ∉ frs (X.env :: X.outer) := fun z => by
    rw [← hs] at z
    rcases List.mem_cons.mp (I.stkSub _ z) with y | y
    · have := I.lt
      rw [← y, cL] at this
      exact Nat.lt_irrefl _ this
    · exact I.nofs (Nat.le_of_eq cL.symm) y
  have held : HandSPX.HeldZ B2 (X.env :: X.outer) a (Zv x cls d) X.env.locals h3 := by
    refine ⟨fun b ob q => ?_, noB a ne, ?_, oa, wa, T, oT, wT, (same a aC).trans ea, za, da, t1, noB T nT, Ta, (same T TC).trans eT, dT, t3⟩
    · obtain ⟨q1, q2⟩ := inB b ob q
      exact (same b q2).trans (kb b ob q1)
    · have f2 : h2.FunFrames B2 (X.env :: X.outer) := funFrames_none ff fun b hb => noB b (ff.mem hb).1
      exact frames_but (fun b ob z q => (same b z).trans q) f2 nS
  -- the state without the block's names
  obtain ⟨g, hg⟩ : ∃ g, PySem.W.hideAll sI.heap [ce.locals] = g := ⟨_, rfl⟩
  have inG : ∀ b ob, g.get? b = some ob → sI.heap.get? b = some ob ∧ b ≠ ce.locals := fun b ob q => by
    rw [← hg] at q
    refine ⟨PySem.W.of_hideAll _ q, fun z => ?_⟩
    rw [PySem.W.hideAll_none _ (by rw [z]; exact List.mem_singleton.mpr rfl)] at q
    cases q
  have toG : ∀ b ob, sI.heap.get? b = some ob → b ≠ ce.locals → g.get? b = some ob := fun b ob q n => by
    rw [← hg]
    exact PySem.W.hideAll_get _ q fun z => n (List.mem_singleton.mp z)
  have young : ∀ b ob, s.heap.get? b = some ob → b ≠ ce.locals := fun b ob q z => by
    have := Heap.lt_size q
    rw [z, cL] at this
    exact Nat.lt_irrefl _ this
  have base : Un (frs X.stack) fp H H' s.heap sI.heap := J.base
  have J2 : Inv X pins sv H' { sI with heap := g } := by
    refine I.call' (ch := fp) (s' := { sI with heap := g }) J.os ⟨fun b ob q n h1 h2 => toG b ob (base.keep b ob q n h1 h2) (young b ob q), fun b ob q n h1 h2 => ?_, base.free, fun b ob q h2 => ?_, base.tups, base.frzs, base.tbls⟩ (fun b u q => ?_) J.bare fun b hb => ⟨(hfp b hb).2.2.2.1, (hfp b hb).2.1, (hfp b hb).2.2.2.2.1, (hfp b hb).2.2.2.2.2⟩
    · obtain ⟨sl, r⟩ := base.slot b ob q n h1 h2
      exact ⟨sl, toG b _ r (young b ob q)⟩
    · obtain ⟨o', r⟩ := base.there b ob q h2
      exact ⟨o', toG b _ r (young b ob q)⟩
    · refine (J.hok b u q).stay (fun c v hc r => toG c v r fun z => ?_) (fun _ r => r) fun _ _ r => r
      subst z
      rcases hc with hc | hc
      · rw [← hc, nC'] at q
        cases q
      · rw [nC'] at hc
        cases hc
  unfold PySem.passOn
  refine wpAny_bind (wpAny_field (s := { t with heap := h3 }) ((same a aC).trans ea) da t1 ?_)
  rw [if_neg (show ¬ ((Value.ref T == Value.none) = true) by simp)]
  have fin : wpAny (model X.prog X.w) X.A (setFlight (.ref a) ce.frame) (fun _ t4 => wpAny (model X.prog X.w) X.A (throw (.ref a) : Sem Value) (fun _ _ => False) X.xe t4) X.xe { t with heap := h3 } := by
    rw [cF, hf]
    refine HandSPX.setFlight_onZ held fun h4 hd4 up4 => wpAny_throw (tk _ _ ?_)
    obtain ⟨o4, w4, e4, z4, _⟩ := sky_obj (L := X.env.locals) (.inr (.inr hd4))
    refine ⟨⟨a, B2, { sI with heap := g }, pins, sv, H', cls, d, rfl, J2, fun b ob q n => ?_, fun b ob q n => ?_, ?_, na, os, ag, w⟩, a, o4, rfl, e4, z4.2⟩
    · obtain ⟨q1, q2⟩ := inG b ob q
      exact toB b ob (nb b ob q1 n) q2
    · obtain ⟨q1, q2⟩ := inG b ob q
      obtain ⟨sl, r⟩ := upC b ob q1 n
      exact up4 b _ ((same b q2).trans r) n |>.elim fun sl' r' => ⟨sl', r'⟩
    · rw [hs]
      exact sky_to (fun _ _ z => z.1) (.inr (.inr hd4))
  first
  | exact wpAny_bind (wpAny_pure (wpAny_bind fin))
  | exact wpAny_bind fin
end
/-! ### what is walked, whichever the state of errors -/
structure TurnG (Ct : Cx → Prop) (P : Program) (w : World) (K : PySem.W.Frag) (tg : Expr) (J : It) (fp : List Addr) (it : Addr) (tn : Nat → Heap → Prop) : Prop where
  inn : it ∈ fp
  has : ∀ i h, tn i h → ∀ b ∈ fp, ∃ o, h.get? b = some o ∧ ∀ v, o.data ≠ .cell v
  hold : ∀ i h h', tn i h → (∀ b ∈ fp, ∀ o, h.get? b = some o → h'.get? b = some o) → tn i h'
  item : ∀ (X : Cx), X.prog = P → X.w = w → X.K = K → Ct X → ∀ (i : Nat) (pins : List (Addr × Obj)) (s : Shared) (sv : St) (H : Hp) (E : Value → Shared → Prop), Inv X pins sv H s → (∀ b ∈ fp, FpOk X pins H b) → tn i s.heap → J.go i H →
    wpAny (model P w) X.A (pyNext (.ref it)) (fun r s1 => ∃ u, r = some u ∧ wpAny (model P w) X.A (letOwnedTupleGo tg (.ref it) u) (fun _ s2 => ∃ x H', Inv X pins sv H' s2 ∧ RelV x u ∧ J.yld i H x H' ∧ tn (i + 1) s2.heap ∧ ∀ b ∈ fp, H' b = none) E s1) E s
  last : ∀ (X : Cx), X.prog = P → X.w = w → X.K = K → Ct X → ∀ (i : Nat) (pins : List (Addr × Obj)) (s : Shared) (sv : St) (H : Hp) (E : Value → Shared → Prop), Inv X pins sv H s → (∀ b ∈ fp, FpOk X pins H b) → tn i s.heap → J.stop i H →
    wpAny (model P w) X.A (pyNext (.ref it)) (fun r s1 => r = none ∧ Inv X pins sv H s1) E s
  self : ∀ (A : Around) (i : Nat) (s : Shared) (Q : Value → Shared → Prop) (E : Value → Shared → Prop), tn i s.heap → Q (.ref it) s → wpAny (model P w) A (pyIter (.ref it)) Q E s
abbrev Calm (X : Cx) : Prop := X.calm = true
theorem turn_g {P : Program} {w : World} {K : PySem.W.Frag} {tg : Expr} {J : It} {fp : List Addr} {it : Addr} {tn : Nat → Heap → Prop} (T : Turn P w K tg J fp it tn) : TurnG Calm P w K tg J fp it tn := ⟨T.mem, T.obj, T.keep, T.item, T.done, T.self⟩
def PIEG (Ct : Cx → Prop) (X : Cx) (pins : List (Addr × Obj)) (sv : St) (tg : Expr) (R : It → Hp → Prop) (itv : Value) (s : Shared) : Prop :=
  ∃ (it : Addr) (fp : List Addr) (tn : Nat → Heap → Prop) (J : It) (H : Hp), itv = .ref it ∧ Inv X pins sv H s ∧ TurnG Ct X.prog X.w X.K tg J fp it tn ∧ tn 0 s.heap ∧ (∀ b ∈ fp, FpOk X pins H b) ∧ R J H
structure PIG (Ct : Cx → Prop) (X : Cx) (tg iter : Expr) (wi : TI) : Prop where
  run : ∀ (pins : List (Addr × Obj)) (s : Shared) (sv : St) (H : Hp) (R : It → Hp → Prop), Inv X pins sv H s → wi sv H R →
    wpAny (model X.prog X.w) X.A (eval iter X.env) (fun v s1 => wpAny (model X.prog X.w) X.A (pyIter v) (PIEG Ct X pins sv tg R) X.xe s1) X.xe s
theorem pi_g {X : Cx} {tg iter : Expr} {wi : TI} (h : PI X tg iter wi) : PIG Calm X tg iter wi := ⟨fun pins s sv H R I q => thn (h.run pins s sv H R I q) fun v s1 h1 => thn h1 fun v2 s2 ⟨it, fp, tn, J, H', e, I', T, r⟩ => ⟨it, fp, tn, J, H', e, I', turn_g T, r⟩⟩
section
variable {Ct : Cx → Prop} {X : Cx} {tg iter : Expr} {body : List Stmt} {wi : TI} {g : TG} {tb : TS} {pos : Pos}
theorem ps_forG (hp : PassesOwn (model X.prog X.w) X.A X.env X.xe) (hc : Ct X) (hi : PIG Ct X tg iter wi) (hg : PG X tg g) (hb : PSs X body tb) (hs : ∀ x, foldedSetIterable iter X.env x = pure x) : PS X (.For tg iter body [] pos) (tFor wi g tb) := ⟨fun pins s sv H D I h => by
  refine wpAny_For (thn (hi.run pins s sv H _ I h) fun v s1 h1 => thn h1 fun itv s2 h2 => ?_) hs
  obtain ⟨it, fp, tn, J, H2, e, I2, T, n2, f2, Wm, ⟨m0, w0⟩, turn⟩ := h2
  subst e
  have fpk : ∀ {H' : Hp}, (∀ b ∈ fp, H' b = none) → ∀ b ∈ fp, FpOk X pins H' b := fun hn b hb => ⟨hn b hb, (f2 b hb).2⟩
  refine codeAny_forLoop_any (fun n t => ∃ i sv' H', Inv X pins sv' H' t ∧ tn i t.heap ∧ (∀ b ∈ fp, H' b = none) ∧ Wm i n sv' H') ?_ m0 ⟨0, sv, H2, I2, n2, fun b hb => (f2 b hb).1, w0⟩
  rintro n t ⟨i, sv3, H3, I3, n3, z3, w3⟩
  rcases turn i n sv3 H3 w3 with ⟨stop, qn⟩ | ⟨go, N, hN, step⟩
  · refine wpAny_passesOwn hp (thn (T.last X rfl rfl rfl hc i pins t sv3 H3 X.xe I3 (fpk z3) n3 stop) fun r t4 ⟨hr, I4⟩ => ?_)
    subst hr
    exact wpAny_execs_nil ⟨sv3, H3, I4, qn⟩
  refine wpAny_passesOwn hp (thn (T.item X rfl rfl rfl hc i pins t sv3 H3 X.xe I3 (fpk z3) n3 go) fun r t4 ⟨u, hr, h4⟩ => ?_)
  subst hr
  refine wpAny_passesOwn hp (thn h4 fun _ t5 ⟨y, H5, I5, r5, y5, n5, z5⟩ => ?_)
  have I5' := I5.pinned (fpk z5) (T.has _ _ n5)
  refine wpAny_passesOwn hp (thn (hg.run _ t5 sv3 H5 y u _ I5' r5 (step y H5 y5)) fun _ t6 ⟨sv6, H6, I6, q6⟩ => ?_)
  refine wpAny_passesOwn hp (thn (hb.run _ t6 sv6 H6 _ I6 q6) fun f t7 q7 => ?_)
  have more : ∀ {sv7 : St} {H7 : Hp}, Inv X (pins ++ pinsAt fp t5.heap) sv7 H7 t7 → N sv7 H7 → ∃ m, m < n ∧ ∃ i sv' H', Inv X pins sv' H' t7 ∧ tn i t7.heap ∧ (∀ b ∈ fp, H' b = none) ∧ Wm i m sv' H' := fun {sv7 H7} I7 n7 => by
    obtain ⟨m', hm, w7⟩ := hN sv7 H7 n7
    have at7 : ∀ b ∈ fp, ∀ o, t5.heap.get? b = some o → t7.heap.get? b = some o ∧ H7 b = none := fun b hb o e =>
      have z := I7.pin (b, o) (List.mem_append_right _ (List.mem_append_right _ (mem_pinsAt hb e)))
      ⟨z.1, z.2.1⟩
    refine ⟨m', hm, i + 1, sv7, H7, I7.unpinned, T.hold _ _ _ n5 fun b hb o e => (at7 b hb o e).1, fun b hb => ?_, w7⟩
    obtain ⟨o, e, _⟩ := T.has _ _ n5 b hb
    exact (at7 b hb o e).2
  cases f with
  | next =>
    obtain ⟨sv7, H7, I7, n7⟩ := q7
    exact more I7 n7
  | cont =>
    obtain ⟨sv7, H7, I7, n7⟩ := q7
    exact more I7 n7
  | brk =>
    obtain ⟨sv7, H7, I7, q7⟩ := q7
    exact ⟨sv7, H7, I7.unpinned, q7⟩
  | ret v =>
    obtain ⟨x7, sv7, H7, I7, r7, q7⟩ := q7
    exact ⟨x7, sv7, H7, I7.unpinned, r7, q7⟩⟩
end
/-! ### a comprehension whose part may raise -/
section
variable {Ct : Cx → Prop} {X : Cx} {W : WX} {x : Value} {elt tg iter : Expr} {scope : Scope} {own : List (Str × Nat)} {pos : Pos} {wi : TI} {g : TG} {te : St → TE}
theorem pe_lcE (hc : Ct X) (hcb : ∀ s H ce fp, Ct (blkE X s H scope ce fp)) (tk : TakesV x X W) (hst : X.stack = X.env :: X.outer) (hfr : X.env.frame = some X.env.locals) (hN : X.N.Nodup) (hi : PIG Ct X tg iter wi) (ok : BlkOk X.N X.env.scope scope own)
    (hg : ∀ (s : Shared) (H : Hp) (C : Addr) (cl : List (Str × Addr)) (fp : List Addr), PG (blkE X s H scope (compEnvC scope cl C X.env) fp) tg g)
    (he : ∀ (sv : St) (s : Shared) (H : Hp) (C : Addr) (cl : List (Str × Addr)) (fp : List Addr), TakesV x (blkE X s H scope (compEnvC scope cl C X.env) fp) (fun cls d _ H' => W cls d sv H') → PE (blkE X s H scope (compEnvC scope cl C X.env) fp) elt (te sv))
    (hs : ∀ y, foldedSetIterable iter X.env y = pure y) : PE X (.ListComp elt [⟨tg, iter, [], 0⟩] scope pos) (fun sv H Q => tLc wi g tYes (te sv) (own.map (·.2)) sv H Q) := ⟨fun pins s sv H Q I h => by
  rw [eval_ListComp]
  have hfree : ∀ y ∈ scope.names, y.2 = .free → ∃ c, X.env.cells.lookup y.1 = some c := fun y hy e => (ok.free y hy e).elim (fun k => I.ok.has _ (.inl k)) fun k => I.ok.has _ (.inr k)
  refine comprehension_at (use := none) rfl hs (closure_ok hfree) ok.kind (fun y hy e => (ok.uniq y hy).trans (by rw [e])) (thn (hi.run pins s sv H _ I h) fun xv s1 hx => thn hx fun itv s2 h2 => ?_)
  obtain ⟨it, fp, tn, J, H2, e, I2, T, n2, f2, q⟩ := h2
  subst e
  refine wpAny_newObj_type (newEnv_comp ?_) (by show 0 ≤ sizeLine; decide)
  obtain ⟨D, hD⟩ : ∃ D, s2.heap.objs.size = D := ⟨_, rfl⟩
  have hDn : H2 D = none := I2.hok.fresh (Nat.le_of_eq hD)
  obtain ⟨Wm, ⟨m0, w0⟩, turn⟩ := q D hDn
  obtain ⟨s3, hs3⟩ : ∃ s3 : Shared, { s2 with heap := s2.heap.push { cls := .type "list", data := .seq ([] : List Value).toArray } } = s3 := ⟨_, rfl⟩
  have I3 : Inv X pins sv (upd H2 D (.lst [])) s3 := by
    rw [← hs3]
    refine I2.laid (t' := s2.toks) (fun b o e => Heap.get?_push_of_some _ e) (Nat.le_of_eq hD) ⟨Nat.zero_le _, [], 0, .nil, ?_⟩
    rw [← hD]
    exact Heap.get?_push_size _ rfl
  have h3 : s3.heap = s2.heap.push { cls := .type "list", data := .seq ([] : List Value).toArray } := by rw [← hs3]
  have f3 : ∀ b ∈ fp, FpOk X pins (upd H2 D (.lst [])) b ∧ b < s3.heap.objs.size := fun b hb => by
    obtain ⟨o, e, _⟩ := T.has _ _ n2 b hb
    have lt := Heap.lt_size e
    refine ⟨⟨?_, (f2 b hb).2⟩, ?_⟩
    · rw [upd_ne (by rw [← hD]; exact Nat.ne_of_lt lt)]
      exact (f2 b hb).1
    · rw [h3, Heap.size_push]
      exact Nat.lt_succ_of_lt lt
  have n3 : tn 0 s3.heap := T.hold _ _ _ n2 fun b _ o e => by rw [h3]; exact Heap.get?_push_of_some _ e
  rw [hs3]
  have I4 := block_start I3 ok hN f3
  have pg := hg s3 (upd H2 D (.lst [])) s3.heap.objs.size (cellsFrom (s3.heap.objs.size + 1) scope.names (cloFrom X.env.cells scope.names [])) fp
  have pe := he sv s3 (upd H2 D (.lst [])) s3.heap.objs.size (cellsFrom (s3.heap.objs.size + 1) scope.names (cloFrom X.env.cells scope.names [])) fp
  have cb := hcb s3 (upd H2 D (.lst [])) (compEnvC scope (cellsFrom (s3.heap.objs.size + 1) scope.names (cloFrom X.env.cells scope.names [])) s3.heap.objs.size X.env) fp
  have tkb := takes_blk (ce := compEnvC scope (cellsFrom (s3.heap.objs.size + 1) scope.names (cloFrom X.env.cells scope.names [])) s3.heap.objs.size X.env) (scope := scope) tk hst hfr I3 rfl rfl fun b hb => (f3 b hb).1
  show codeAny _ _ (.compStart (.ListComp elt [⟨tg, iter, [], 0⟩] scope pos) 0 (.ref it) (.ref s2.heap.objs.size) (compEnvC scope (cellsFrom (s3.heap.objs.size + 1) scope.names (cloFrom X.env.cells scope.names [])) s3.heap.objs.size X.env)) (compEnds (model X.prog X.w) X.A X.xe none (EP X pins sv Q) (.ref s2.heap.objs.size) (compEnvC scope (cellsFrom (s3.heap.objs.size + 1) scope.names (cloFrom X.env.cells scope.names [])) s3.heap.objs.size X.env)) { s3 with heap := pushCells (s3.heap.push { cls := .type "dict", data := .dict #[] }) scope.names }
  rw [hD]
  obtain ⟨ce, hce⟩ : ∃ ce, compEnvC scope (cellsFrom (s3.heap.objs.size + 1) scope.names (cloFrom X.env.cells scope.names [])) s3.heap.objs.size X.env = ce := ⟨_, rfl⟩
  have cL : ce.locals = s3.heap.objs.size := by rw [← hce]; rfl
  rw [hce] at I4 pg pe tkb cb ⊢
  have pe := pe tkb
  have z3 : ∀ b ∈ fp, (upd H2 D (.lst [])) b = none := fun b hb => (f3 b hb).1.1
  have fo : ∀ b ∈ fp, FpOk X pins (upd H2 D (.lst [])) b := fun b hb => (f3 b hb).1
  generalize upd H2 D (.lst []) = H3 at I3 I4 pg pe tkb cb w0 z3 fo
  obtain ⟨s4, hs4⟩ : ∃ s4 : Shared, { s3 with heap := pushCells (s3.heap.push { cls := .type "dict", data := .dict #[] }) scope.names } = s4 := ⟨_, rfl⟩
  rw [hs4] at I4 ⊢
  have n4 : tn 0 s4.heap := T.hold _ _ _ n3 fun b _ o e => by rw [← hs4]; exact pushCells_keeps _ _ _ _ (Heap.get?_push_of_some _ e)
  -- pins of the def hold in its block
  have young : ∀ p ∈ X.pn, p.1 < s3.heap.objs.size := fun p hp => Heap.lt_size (I3.pin p (List.mem_append_left _ hp)).1
  have J4 : Inv (blkE X s3 H3 scope ce fp) [] (L2.wipe sv (own.map (·.2))) H3 s4 := by
    refine ⟨I4.ok.toTry _ _, I4.os, I4.bare, I4.base, I4.loc, I4.cell, I4.free, I4.freeC, fun p hp => ?_, I4.hok, I4.len⟩
    have hp : p ∈ X.pn := by rw [List.append_nil] at hp; exact hp
    obtain ⟨q1, q2, q3, q4, q5⟩ := I3.pin p (List.mem_append_left _ hp)
    refine ⟨?_, q2, ?_, fun z => ?_, q5⟩
    · rw [← hs4]
      exact pushCells_keeps _ _ _ _ (Heap.get?_push_of_some _ q1)
    · show p.1 ≠ ce.locals
      rw [cL]
      exact Nat.ne_of_lt (young p hp)
    · rcases List.mem_cons.mp (I3.stkSub _ z) with y | y
      · exact q3 y
      · exact q4 y
  have stat : ∀ {sv' : St} {H' : Hp} {s' : Shared}, Inv (blkE X s3 H3 scope ce fp) [] sv' H' s' → (∀ b ∈ fp, H' b = none) → ∀ b ∈ fp, FpOk (blkE X s3 H3 scope ce fp) [] H' b := fun {sv' H' s'} I' hn b hb =>
    ⟨hn b hb, (I'.ok.exf b hb).1, I'.ok.exfs b hb, .inl hb, fun y c e => (I'.ok.exf b hb).2 y c e, fun p hp => (fo b hb).2.2.2.2.2 p (List.mem_append_left _ (by rw [List.append_nil] at hp; exact hp))⟩
  have loop : codeAny (model X.prog X.w) X.A (.compLoop (.ListComp elt [⟨tg, iter, [], 0⟩] scope pos) 0 (.ref it) (.ref D) ce) (compEnds (model X.prog X.w) X.A X.xe none (EP X pins sv Q) (.ref D) ce) s4 := by
    refine compLoop_any (fun n t => ∃ i H', Inv (blkE X s3 H3 scope ce fp) [] (L2.wipe sv (own.map (·.2))) H' t ∧ tn i t.heap ∧ (∀ b ∈ fp, H' b = none) ∧ Wm i n H') ?_ m0 ⟨0, H3, J4, n4, z3, w0⟩
    rintro n t5 ⟨i, H5, I5, n5, z5, w5⟩
    rcases turn i n H5 w5 with ⟨stop, qq⟩ | ⟨go, Nx, hNx, step⟩
    · refine thnF (T.last (blkE X s3 H3 scope ce fp) rfl rfl rfl cb i [] t5 _ H5 (fun _ _ => False) I5 (stat I5 z5) n5 stop) fun r t6 ⟨hr, I6⟩ => ?_
      subst hr
      have I7 : Inv X pins sv H5 t6 := I3.call' (ch := fp) I6.os I6.base I6.hok I6.bare fun b hb => ⟨(fo b hb).2.2.2.1, (fo b hb).2.1, (fo b hb).2.2.2.2.1, (fo b hb).2.2.2.2.2⟩
      have nC : H5 ce.locals = none := I6.free
      obtain ⟨m, hn, _⟩ := I6.loc
      obtain ⟨f0, f1, f2', f4, f5, f6⟩ := I3.fpOk (H' := H5) (b := ce.locals) (Nat.le_of_eq cL.symm) nC
      exact ⟨m, hn, fun h' sb => ⟨.ref D, H5, I7.turned (t' := t6.toks) (fun b o hb e => (sb.2 b hb).trans e) f0 f1 f4 f5 f6, rfl, qq⟩⟩
    · refine thnF (T.item (blkE X s3 H3 scope ce fp) rfl rfl rfl cb i [] t5 _ H5 (fun _ _ => False) I5 (stat I5 z5) n5 go) fun r t6 ⟨u, hr, h6⟩ => ?_
      subst hr
      refine thnF h6 fun _ t7 ⟨y, H7, I7, r7, y7, n7, z7⟩ => ?_
      have I7' := I7.pinned (stat I7 z7) (T.has _ _ n7)
      refine thn (pg.run _ t7 _ H7 y u _ I7' r7 (step y H7 y7)) fun _ t8 ⟨sv8, H8, I8, hw8, q8⟩ => ?_
      refine thn ((pts_nil (X := blkE X s3 H3 scope ce fp)).run _ t8 sv8 H8 _ I8 q8) fun b t9 ⟨H9, I9, q9⟩ => ?_
      have back : ∀ {t' : Shared} {H' : Hp}, Inv (blkE X s3 H3 scope ce fp) ([] ++ pinsAt fp t7.heap) sv8 H' t' → Nx H' → ∃ m, m < n ∧ ∃ i H', Inv (blkE X s3 H3 scope ce fp) [] (L2.wipe sv (own.map (·.2))) H' t' ∧ tn i t'.heap ∧ (∀ b ∈ fp, H' b = none) ∧ Wm i m H' := fun {t' H'} I' nx => by
        obtain ⟨m', hm, w'⟩ := hNx H' nx
        have at7 : ∀ b ∈ fp, ∀ o, t7.heap.get? b = some o → t'.heap.get? b = some o ∧ H' b = none := fun b hb o e =>
          have z := I'.pin (b, o) (List.mem_append_right _ (List.mem_append_right _ (mem_pinsAt hb e)))
          ⟨z.1, z.2.1⟩
        refine ⟨m', hm, i + 1, H', (I'.unpinned (pins := [])).weak (by rw [← hw8, wipe_length]) (fun j v e => ?_), T.hold _ _ _ n7 fun b hb o e => (at7 b hb o e).1, fun b hb => ?_, w'⟩
        · rw [← hw8] at e
          exact (wipe_some e).1
        · obtain ⟨o, e, _⟩ := T.has _ _ n7 b hb
          exact (at7 b hb o e).2
      cases b with
      | false =>
        rw [if_neg Bool.false_ne_true] at q9 ⊢
        exact back I9 q9
      | true =>
        rw [if_pos rfl] at q9 ⊢
        refine thn (pe.run _ t9 sv8 H9 _ I9 q9) fun z t10 ⟨yv, H10, I10, r10, acc, hD10, hz10, nx⟩ => ?_
        exact app_ok (X := blkE X s3 H3 scope ce fp) I10 hD10 hz10 r10 fun t11 I11 => back I11 nx
  exact codeAny_compStart_list loop (T.self X.A 0 _ _ _ n4 loop)⟩
end
end Sl
/-! S18: what is walked, and raised, where an error is handled; its chain is one error or two. -/
namespace HotX
open PySem PySem.Spec PyProof.Rows
/-- the handled error x1; its context is None, or an error whose context is None -/
def Chn (A : Around) (x1 : Addr) (h : Heap) : Prop := A.handled = some (.ref x1) ∧ ∃ (o : Obj) (vs : Array Value), h.get? x1 = some o ∧ o.data = .fields vs ∧ (vs[2]? = some .none ∨
  ∃ (x0 : Addr) (o0 : Obj) (ws : Array Value), vs[2]? = some (.ref x0) ∧ x0 ≠ x1 ∧ h.get? x0 = some o0 ∧ o0.data = .fields ws ∧ ws[2]? = some .none)
theorem Chn.ext {A : Around} {x1 : Addr} {h h' : Heap} (c : Chn A x1 h) (k : ∀ b o vs, h.get? b = some o → o.data = .fields vs → vs[2]? ≠ Option.none → h'.get? b = some o) : Chn A x1 h' := by
  obtain ⟨hh, o, vs, e, d, r⟩ := c
  refine ⟨hh, o, vs, k _ _ _ e d ?_, d, ?_⟩
  · rcases r with r | ⟨_, _, _, r, _⟩ <;> rw [r] <;> simp
  · rcases r with r | ⟨x0, o0, ws, r1, r2, r3, r4, r5⟩
    · exact .inl r
    · exact .inr ⟨x0, o0, ws, r1, r2, k _ _ _ r3 r4 (by rw [r5]; simp), r4, r5⟩
section
variable {prog : Program} {w : World} {A : Around} {E : Value → Shared → Prop} {s : Shared}
theorem unchained2 {x1 x0 a : Addr} {o1 o0 : Obj} {vs ws : Array Value} {Q : Value → Shared → Prop} (h1 : s.heap.get? x1 = some o1) (d1 : o1.data = .fields vs) (c1 : vs[2]? = some (.ref x0)) (n1 : x0 ≠ x1) (na : x0 ≠ a)
    (h0 : s.heap.get? x0 = some o0) (d0 : o0.data = .fields ws) (c0 : ws[2]? = some .none) (q : Q .none s) :
    wpAny (model prog w) A (holding [Value.ref a] (runValue (.builtin "proto.unchain" ⟨[.ref a, .ref x1, .ref x1, .bool false], []⟩))) Q E s := by
  refine wpAny_holding (wpAny_runValue (codeAny_builtin entry_unchain ?_))
  show wpAny _ _ (field (.ref x1) 2 >>= _) _ _ s
  refine wpAny_bind (wpAny_field h1 d1 c1 ?_)
  have n : ∀ {u v : Addr}, u ≠ v → ¬ ((Value.ref u == Value.ref v) = true) := fun {u v} hne z => hne (Value.ref.inj (beq_iff_eq.mp z))
  rw [if_neg (show ¬ ((Value.ref x0 == Value.none) = true) from Bool.false_ne_true)]
  try dsimp only
  rw [if_neg (n na), if_neg (n n1)]
  try dsimp only
  refine wpAny_bind (wpAny_pure (wpAny_pure ⟨Code.quiet_builtin _ (by decide +kernel), ?_⟩))
  refine codeAny_builtin entry_unchain ?_
  show wpAny _ _ (field (.ref x0) 2 >>= _) _ _ s
  refine wpAny_bind (wpAny_field h0 d0 c0 ?_)
  rw [if_pos (show (Value.none == Value.none) = true from rfl)]
  first
  | exact wpAny_bind (wpAny_pure (wpAny_pure q))
  | exact wpAny_pure q
theorem raise_chn {α : Type} {a x1 : Addr} {oe : Obj} {vs : Array Value} {Q : α → Shared → Prop} {h0 : Heap} (c : Chn A x1 h0) (new : h0.get? a = none) (k : ∀ b o, h0.get? b = some o → s.heap.get? b = some o)
    (ha : s.heap.get? a = some oe) (da : oe.data = .fields vs) (hi : 2 < vs.size)
    (hE : E (.ref a) { s with heap := s.heap.update a (Obj.mapFields (·.setIfInBounds 2 (.ref x1))) }) : wpAny (model prog w) A (raiseNew (.ref a) : Sem α) Q E s := by
  obtain ⟨hh, o1, v1, e1, d1, r⟩ := c
  have na : ∀ {b : Addr} {o : Obj}, h0.get? b = some o → b ≠ a := fun {b o} e z => by
    rw [z, new] at e
    cases e
  rcases r with r | ⟨x0, o0, ws, r1, r2, r3, r4, r5⟩
  · exact raiseNew_hot ⟨hh, o1, v1, k _ _ e1, d1, r⟩ (na e1) ha da hi hE
  · unfold raiseNew
    refine wpAny_bind (wpAny_handled ?_)
    rw [hh]
    have hb : (Value.ref x1 != Value.ref a) = true := ref_bne (na e1)
    have u := fun {Q : Value → Shared → Prop} {E : Value → Shared → Prop} (q : Q .none s) => unchained2 (prog := prog) (w := w) (A := A) (E := E) (a := a) (k _ _ e1) d1 r1 r2 (na r3) (k _ _ r3) r4 r5 q
    first
    | (show wpAny _ _ (if (Value.ref x1 != Value.ref a) = true then _ else _) _ _ _
       rw [if_pos hb]
       first
       | exact wpAny_bind (u (wpAny_bind (chained ha da hi (wpAny_throw hE))))
       | exact wpAny_bind (wpAny_bind (u (chained ha da hi (wpAny_throw hE)))))
    | (refine wpAny_bind ?_
       show wpAny _ _ (if (Value.ref x1 != Value.ref a) = true then _ else _) _ _ _
       rw [if_pos hb]
       exact wpAny_bind (u (chained ha da hi (wpAny_throw hE))))
/-- an iterator's end -/
theorem stop_chn {α : Type} {x1 : Addr} {Q : α → Shared → Prop} {h0 : Heap} (c : Chn A x1 h0) (sz : s.heap.objs.size = h0.objs.size) (k : ∀ b o, h0.get? b = some o → s.heap.get? b = some o)
    (hE : ∀ h' e, (∀ b o, s.heap.get? b = some o → h'.get? b = some o) → (∃ o, h'.get? e = some o ∧ o.cls = .type "StopIteration") → E (.ref e) { s with heap := h' }) :
    wpAny (model prog w) A (newExc (.type "StopIteration") [] >>= fun e => (raiseNew e : Sem α)) Q E s := by
  refine wpAny_bind ?_
  simp only [newExc, newTuple]
  refine wpAny_bind (wpAny_newObj_type ?_ (by size_fits))
  refine wpAny_bind (m := firstArgMember _ _) (wpAny_of_eq (a := Value.none) (by first | rfl | (simp only [firstArgMember]; rfl)) ?_)
  refine wpAny_newObj_type ?_ (by size_fits)
  have kk : ∀ (u v : Obj) b o, s.heap.get? b = some o → ((s.heap.push u).push v).get? b = some o := fun u v b o e => Heap.get?_push_of_some _ (Heap.get?_push_of_some _ e)
  refine raise_chn c (Heap.get?_none_of_le (by rw [Heap.size_push, sz]; exact Nat.le_succ _)) (fun b o e => kk _ _ b o (k b o e)) (Heap.get?_push_size _ rfl) rfl (by first | (simp; done) | (simp; omega) | (simp only [Array.size_append]; simp; omega)) ?_
  refine hE _ _ (fun b o e => ?_) ⟨_, Heap.get?_update_self _ (Heap.get?_push_size _ rfl) rfl, rfl⟩
  rw [Heap.get?_update_other _ _ (Nat.ne_of_gt (Heap.lt_size (Heap.get?_push_of_some _ e)))]
  exact kk _ _ b o e
/-- what has no third field is none of the chain -/
theorem Chn.off {x1 it : Addr} {o : Obj} {f : Obj → Obj} {vs : Array Value} {h : Heap} (c : Chn A x1 h) (e : h.get? it = some o) (d : o.data = .fields vs) (z : vs[2]? = Option.none) : Chn A x1 (h.update it f) :=
  c.ext fun b ob ws eb db n => by
    have hne : b ≠ it := fun q => by
      rw [q, e] at eb
      cases eb
      rw [d] at db
      cases db
      exact n z
    exact (Heap.get?_update_other h f (Ne.symm hne)).trans eb
theorem stop_now {x1 it : Addr} {f : Obj → Obj} {α : Type} {Q : α → Shared → Prop} (c : Chn A x1 (s.heap.update it f)) {R : Option Value → Shared → Prop}
    (hQ : ∀ h', (∀ b o, b ≠ it → s.heap.get? b = some o → h'.get? b = some o) → R none { s with heap := h' })
    (hE : ∀ h' e, (∃ o, h'.get? e = some o ∧ o.cls = .type "StopIteration") → R none { s with heap := h' } → E (.ref e) { s with heap := h' }) :
    wpAny (model prog w) A (newExc (.type "StopIteration") [] >>= fun e => (raiseNew e : Sem α)) Q E { s with heap := s.heap.update it f } :=
  stop_chn c rfl (fun _ _ e => e) fun h' e k st => hE h' e st (hQ h' fun b o hb eb => k b o ((Heap.get?_update_other s.heap f (Ne.symm hb)).trans eb))
theorem end_list {it x1 : Addr} {i : Nat} {l : Addr} {items : Array Value} {Q : Option Value → Shared → Prop} (c : Chn A x1 s.heap) (hit : s.heap.IsListIter it l i) (hl : s.heap.IsList l items) (hx : items[i]? = none)
    (hQ : ∀ h', (∀ b o, b ≠ it → s.heap.get? b = some o → h'.get? b = some o) → Q none { s with heap := h' }) : wpAny (model prog w) A (pyNext (.ref it)) Q E s := by
  obtain ⟨o, ho, hc, hd⟩ := id hit
  obtain ⟨ol, hol, _, nl, hdl⟩ := hl
  unfold pyNext
  refine wpAny_bind (wpAny_attempt (wpAny_callSpecial?_slot (name := Str.ofString "__next__") hit.typeIs slot_listiter_next (wpAny_call_entry slot_listiter_next hit.typeIs entry_listiter_next ?_ (args_listiter_next _))))
  show wpAny _ _ (field (.ref it) 0 >>= _) _ _ s
  refine wpAny_bind (wpAny_field ho hd (x := .ref l) rfl ?_)
  show wpAny _ _ (if (Value.ref l == Value.none) = true then _ else _) _ _ s
  rw [if_neg (show ¬ ((Value.ref l == Value.none) = true) from Bool.false_ne_true)]
  show wpAny _ _ (field (.ref it) 1 >>= _) _ _ s
  refine wpAny_bind (wpAny_field ho hd (x := .int i 0) rfl ?_)
  show wpAny _ _ (seqItems? (.ref l) >>= _) _ _ s
  refine wpAny_bind (wpAny_seqItems hol hdl ?_)
  simp only [Int.toNat_natCast, hx]
  refine wpAny_bind (wpAny_rule (wpAny_bind (wpAny_setField ho hd (by simp) ?_)))
  show wpAny _ _ (newExc (.type "StopIteration") [] >>= fun e => raiseNew e) _ _ _
  refine stop_now (c.off ho hd rfl) hQ fun h' e st q => ?_
  exact wpAny_bind (wpAny_isInstance (T := "StopIteration") (b := true) st isSubtype_stop (wpAny_pure q))
theorem end_tup {it x1 : Addr} {i : Nat} {l : Addr} {items : Array Value} {Q : Option Value → Shared → Prop} (c : Chn A x1 s.heap) (hit : s.heap.IsTupleIter it l i) (hl : s.heap.IsTuple l items) (hx : items[i]? = none)
    (hQ : ∀ h', (∀ b o, b ≠ it → s.heap.get? b = some o → h'.get? b = some o) → Q none { s with heap := h' }) : wpAny (model prog w) A (pyNext (.ref it)) Q E s := by
  obtain ⟨o, ho, hc, hd⟩ := id hit
  obtain ⟨ol, hol, _, nl, hdl⟩ := hl
  unfold pyNext
  refine wpAny_bind (wpAny_attempt (wpAny_callSpecial?_slot (name := Str.ofString "__next__") hit.typeIs F.slot_tuple_iterator_next (wpAny_call_entry F.slot_tuple_iterator_next hit.typeIs F.entry_tuple_iterator_next ?_ (F.args_tuple_iterator_next_1 _))))
  show wpAny _ _ (field (.ref it) 0 >>= _) _ _ s
  refine wpAny_bind (wpAny_field ho hd (x := .ref l) rfl ?_)
  show wpAny _ _ (if (Value.ref l == Value.none) = true then _ else _) _ _ s
  rw [if_neg (show ¬ ((Value.ref l == Value.none) = true) from Bool.false_ne_true)]
  show wpAny _ _ (field (.ref it) 1 >>= _) _ _ s
  refine wpAny_bind (wpAny_field ho hd (x := .int i 0) rfl ?_)
  show wpAny _ _ (seqItems? (.ref l) >>= _) _ _ s
  refine wpAny_bind (wpAny_seqItems hol hdl ?_)
  simp only [Int.toNat_natCast, hx]
  refine wpAny_bind (wpAny_rule (wpAny_bind (wpAny_setField ho hd (by simp) ?_)))
  show wpAny _ _ (newExc (.type "StopIteration") [] >>= fun e => raiseNew e) _ _ _
  refine stop_now (c.off ho hd rfl) hQ fun h' e st q => ?_
  exact wpAny_bind (wpAny_isInstance (T := "StopIteration") (b := true) st isSubtype_stop (wpAny_pure q))
theorem end_ascii {it x1 : Addr} {i : Nat} {x : Str} {t : Tok} {Q : Option Value → Shared → Prop} (c : Chn A x1 s.heap) (hit : s.heap.IsStrIter it "str_ascii_iterator" x t i) (hx : x.cps[i]? = none)
    (hQ : ∀ h', (∀ b o, b ≠ it → s.heap.get? b = some o → h'.get? b = some o) → Q none { s with heap := h' }) : wpAny (model prog w) A (pyNext (.ref it)) Q E s := by
  obtain ⟨o, ho, hc, hd⟩ := id hit
  unfold pyNext
  refine wpAny_bind (wpAny_attempt (wpAny_callSpecial?_slot (name := Str.ofString "__next__") hit.typeIs F.slot_str_ascii_iterator_next (wpAny_call_entry F.slot_str_ascii_iterator_next hit.typeIs F.entry_str_ascii_iterator_next ?_ (F.args_str_ascii_iterator_next_1 _))))
  show wpAny _ _ (field (.ref it) 0 >>= _) _ _ s
  refine wpAny_bind (wpAny_field ho hd (x := .str x t) rfl ?_)
  show wpAny _ _ (field (.ref it) 1 >>= _) _ _ s
  refine wpAny_bind (wpAny_field ho hd (x := .int i 0) rfl ?_)
  simp only [Int.toNat_natCast, hx]
  refine wpAny_bind (wpAny_rule (wpAny_bind (wpAny_setField ho hd (by simp) (wpAny_bind (wpAny_letGo ?_)))))
  show wpAny _ _ (newExc (.type "StopIteration") [] >>= fun e => raiseNew e) _ _ _
  refine stop_now (c.off ho hd rfl) hQ fun h' e st q => ?_
  exact wpAny_bind (wpAny_isInstance (T := "StopIteration") (b := true) st isSubtype_stop (wpAny_pure q))
theorem end_wide {it x1 : Addr} {i : Nat} {x : Str} {t : Tok} {Q : Option Value → Shared → Prop} (c : Chn A x1 s.heap) (hit : s.heap.IsStrIter it "str_iterator" x t i) (hx : x.cps[i]? = none)
    (hQ : ∀ h', (∀ b o, b ≠ it → s.heap.get? b = some o → h'.get? b = some o) → Q none { s with heap := h' }) : wpAny (model prog w) A (pyNext (.ref it)) Q E s := by
  obtain ⟨o, ho, hc, hd⟩ := id hit
  unfold pyNext
  refine wpAny_bind (wpAny_attempt (wpAny_callSpecial?_slot (name := Str.ofString "__next__") hit.typeIs F.slot_str_iterator_next (wpAny_call_entry F.slot_str_iterator_next hit.typeIs F.entry_str_iterator_next ?_ (F.args_str_iterator_next_1 _))))
  show wpAny _ _ (field (.ref it) 0 >>= _) _ _ s
  refine wpAny_bind (wpAny_field ho hd (x := .str x t) rfl ?_)
  show wpAny _ _ (field (.ref it) 1 >>= _) _ _ s
  refine wpAny_bind (wpAny_field ho hd (x := .int i 0) rfl ?_)
  simp only [Int.toNat_natCast, hx]
  refine wpAny_bind (wpAny_rule (wpAny_bind (wpAny_setField ho hd (by simp) (wpAny_bind (wpAny_letGo ?_)))))
  show wpAny _ _ (newExc (.type "StopIteration") [] >>= fun e => raiseNew e) _ _ _
  refine stop_now (c.off ho hd rfl) hQ fun h' e st q => ?_
  exact wpAny_bind (wpAny_isInstance (T := "StopIteration") (b := true) st isSubtype_stop (wpAny_pure q))
end
end HotX
namespace Sl
open PySem PySem.Spec PyProof.Rows L2 HotX
/-- an error is handled in this context -/
def HotG (X : Cx) : Prop := ∀ (pins : List (Addr × Obj)) (sv : St) (H : Hp) (s : Shared), Inv X pins sv H s → ∃ x1, Chn X.A x1 s.heap
theorem hotg1 {X : Cx} {p : Addr × Obj} (h : L2H.Hot1 X.A p) (m : p ∈ X.pn) : HotG X := fun pins sv H s I => by
  obtain ⟨hh, vs, d, c⟩ := h
  exact ⟨p.1, hh, p.2, vs, (I.pin p (List.mem_append_left _ m)).1, d, .inl c⟩
/-- q is handled, its context is p -/
def Hot2 (A : Around) (p q : Addr × Obj) : Prop := A.handled = some (.ref q.1) ∧ p.1 ≠ q.1 ∧ (∃ vs : Array Value, p.2.data = .fields vs ∧ vs[2]? = some .none) ∧ ∃ ws : Array Value, q.2.data = .fields ws ∧ ws[2]? = some (.ref p.1)
theorem hotg2 {X : Cx} {p q : Addr × Obj} (h : Hot2 X.A p q) (mp : p ∈ X.pn) (mq : q ∈ X.pn) : HotG X := fun pins sv H s I => by
  obtain ⟨hh, ne, ⟨vs, d, c⟩, ws, d2, c2⟩ := h
  exact ⟨q.1, hh, q.2, ws, (I.pin q (List.mem_append_left _ mq)).1, d2, .inr ⟨p.1, p.2, vs, c2, ne, (I.pin p (List.mem_append_left _ mp)).1, d, c⟩⟩
theorem mem1 {a b : Addr} (h : b ∈ [a]) : b = a := List.mem_singleton.mp h
section
variable {P : Program} {w : World} {K : PySem.W.Frag} {tg : Expr}
/-- one iterator's object -/
theorem turn_one {J : It} {it : Addr} {tn : Nat → Heap → Prop}
    (has : ∀ i h, tn i h → ∃ o, h.get? it = some o ∧ ∀ v, o.data ≠ .cell v) (hold : ∀ i h h', tn i h → (∀ o, h.get? it = some o → h'.get? it = some o) → tn i h')
    (item : ∀ (X : Cx), X.prog = P → X.w = w → X.K = K → ∀ (i : Nat) (pins : List (Addr × Obj)) (s : Shared) (sv : St) (H : Hp) (E : Value → Shared → Prop), Inv X pins sv H s → FpOk X pins H it → tn i s.heap → J.go i H →
      wpAny (model P w) X.A (pyNext (.ref it)) (fun r s1 => ∃ u, r = some u ∧ wpAny (model P w) X.A (letOwnedTupleGo tg (.ref it) u) (fun _ s2 => ∃ x H', Inv X pins sv H' s2 ∧ RelV x u ∧ J.yld i H x H' ∧ tn (i + 1) s2.heap ∧ H' it = none) E s1) E s)
    (last : ∀ (X : Cx) (x1 : Addr), X.prog = P → X.w = w → X.K = K → ∀ (i : Nat) (pins : List (Addr × Obj)) (s : Shared) (sv : St) (H : Hp) (E : Value → Shared → Prop), Chn X.A x1 s.heap → Inv X pins sv H s → FpOk X pins H it → tn i s.heap → J.stop i H →
      wpAny (model P w) X.A (pyNext (.ref it)) (fun r s1 => r = none ∧ Inv X pins sv H s1) E s)
    (self : ∀ (A : Around) (i : Nat) (s : Shared) (Q : Value → Shared → Prop) (E : Value → Shared → Prop), tn i s.heap → Q (.ref it) s → wpAny (model P w) A (pyIter (.ref it)) Q E s) : TurnG HotG P w K tg J [it] it tn where
  inn := List.mem_cons_self
  has := fun i h t b hb => by rw [mem1 hb]; exact has i h t
  hold := fun i h h' t k => hold i h h' t (k it List.mem_cons_self)
  item := fun X e1 e2 e3 _ i pins s sv H E I hf t g => wpAny_mono (item X e1 e2 e3 i pins s sv H E I (hf it List.mem_cons_self) t g) (fun r s1 ⟨u, hu, q⟩ => ⟨u, hu, wpAny_mono q (fun _ s2 ⟨x, H', a, b, c, d, e⟩ => ⟨x, H', a, b, c, d, fun b hb => by rw [mem1 hb]; exact e⟩) fun _ _ z => z⟩) fun _ _ z => z
  last := fun X e1 e2 e3 hot i pins s sv H E I hf t g => by
    obtain ⟨x1, c⟩ := hot pins sv H s I
    exact last X x1 e1 e2 e3 i pins s sv H E c I (hf it List.mem_cons_self) t g
  self := self
theorem turn_gl (a it : Addr) : TurnG HotG P w K tg (Itl K a) [it] it (fun i h => h.IsListIter it a i) := by
  refine turn_one (fun i h st => ?_) (fun i h h' st k => st.at fun o e => k o e) (fun X p1 p2 p3 i pins s sv H E I hf st hg => ?_) (fun X x1 p1 p2 p3 i pins s sv H E hot I hf st hg => ?_) fun _ _ _ _ _ st h => wpAny_pyIter_listiter st h
  · obtain ⟨o, e, c, d⟩ := st
    exact ⟨o, e, fun v z => by rw [d] at z; cases z⟩
  · subst p1 p2 p3
    obtain ⟨xs, x, hq, hx⟩ := hg
    obtain ⟨its, rv, p, hz⟩ := I.list hq
    obtain ⟨u, hu, ru⟩ := rv.get hx
    obtain ⟨f0, f1, f2, f3, f4, f5⟩ := hf
    refine wpAny_pyNext_list_item st p.isList (x := u) (by simpa using hu) fun h2 st2 sb => ?_
    have J : Inv X pins sv H { s with heap := h2 } := I.turned (t' := s.toks) (fun b o hb e => (sb.2 b hb).trans e) f0 f1 f3 f4 f5
    obtain ⟨o, e, c, d⟩ := id st2
    exact ⟨u, rfl, go_of (s := { s with heap := h2 }) e c d (by decide) ⟨x, H, J, ru, ⟨rfl, fun ys hy => by rw [I.list_inj hy hq]; exact hx⟩, st2, f0⟩⟩
  · subst p1 p2 p3
    obtain ⟨xs, hq, hx⟩ := hg
    obtain ⟨its, rv, p, hz⟩ := I.list hq
    obtain ⟨f0, f1, f2, f3, f4, f5⟩ := hf
    have hl := rv.length
    exact end_list hot st p.isList (by simp; omega) fun h2 eb => ⟨rfl, I.turned (t' := s.toks) (fun b o hb e => eb b o hb e) f0 f1 f3 f4 f5⟩
theorem turn_gt (a it : Addr) : TurnG HotG P w K tg (Itt K a) [it] it (fun i h => h.IsTupleIter it a i) := by
  refine turn_one (fun i h st => ?_) (fun i h h' st k => st.at fun o e => k o e) (fun X p1 p2 p3 i pins s sv H E I hf st hg => ?_) (fun X x1 p1 p2 p3 i pins s sv H E hot I hf st hg => ?_) fun _ _ _ _ _ st h => wpAny_pyIter_tupleiter st h
  · obtain ⟨o, e, c, d⟩ := st
    exact ⟨o, e, fun v z => by rw [d] at z; cases z⟩
  · subst p1 p2 p3
    obtain ⟨xs, x, hq, hx⟩ := hg
    obtain ⟨its, rv, p, hz⟩ := I.tuple hq
    obtain ⟨u, hu, ru⟩ := rv.get hx
    obtain ⟨f0, f1, f2, f3, f4, f5⟩ := hf
    have tp : s.heap.IsTuple a its.toArray := p
    refine wpAny_pyNext_tuple_item st tp (x := u) (by simpa using hu) fun h2 st2 sb => ?_
    have J : Inv X pins sv H { s with heap := h2 } := I.turned (t' := s.toks) (fun b o hb e => (sb.2 b hb).trans e) f0 f1 f3 f4 f5
    obtain ⟨o, e, c, d⟩ := id st2
    exact ⟨u, rfl, go_of (s := { s with heap := h2 }) e c d (by decide) ⟨x, H, J, ru, ⟨rfl, fun ys hy => by rw [I.tuple_inj hy hq]; exact hx⟩, st2, f0⟩⟩
  · subst p1 p2 p3
    obtain ⟨xs, hq, hx⟩ := hg
    obtain ⟨its, rv, p, hz⟩ := I.tuple hq
    obtain ⟨f0, f1, f2, f3, f4, f5⟩ := hf
    have hl := rv.length
    have tp : s.heap.IsTuple a its.toArray := p
    exact end_tup hot st tp (by simp; omega) fun h2 eb => ⟨rfl, I.turned (t' := s.toks) (fun b o hb e => eb b o hb e) f0 f1 f3 f4 f5⟩
theorem turn_gs (it : Addr) (x : Str) (t : Tok) (ty : String) (hty : ty = "str_ascii_iterator" ∨ ty = "str_iterator") : TurnG HotG P w K tg (Its x) [it] it (fun i h => h.IsStrIter it ty x t i) := by
  refine turn_one (fun i h st => ?_) (fun i h h' st k => let ⟨o, ho, r⟩ := st; ⟨o, k o ho, r⟩) (fun X p1 p2 p3 i pins s sv H E I hf st hg => ?_) (fun X x1 p1 p2 p3 i pins s sv H E hot I hf st hg => ?_) fun A i s Q E st h => ?_
  · obtain ⟨o, e, c, d⟩ := st
    exact ⟨o, e, fun v z => by rw [d] at z; cases z⟩
  · subst p1 p2 p3
    obtain ⟨f0, f1, f2, f3, f4, f5⟩ := hf
    have hx : x.cps[i]? = some x.cps[i] := Array.getElem?_eq_getElem hg
    have fin : ∀ (h2 : Heap), h2.IsStrIter it ty x t (i + 1) → Heap.SameBut it s.heap h2 → ∃ u, some (Value.str ⟨#[x.cps[i]]⟩ s.toks) = some u ∧ wpAny (model X.prog X.w) X.A (letOwnedTupleGo tg (.ref it) u) (fun _ s2 => ∃ y H', Inv X pins sv H' s2 ∧ RelV y u ∧ (Its x).yld i H y H' ∧ s2.heap.IsStrIter it ty x t (i + 1) ∧ H' it = none) E { s with heap := h2, toks := s.toks + 1 } := fun h2 st2 sb => by
      have J : Inv X pins sv H { s with heap := h2, toks := s.toks + 1 } := I.turned (fun b o hb e => (sb.2 b hb).trans e) f0 f1 f3 f4 f5
      have hno : ["enumerate", "zip", "dict_itemiterator", "dict_reverseitemiterator", "odict_iterator", "itertools.zip_longest", "itertools.pairwise"].contains ty = false := by
        rcases hty with e | e <;> rw [e] <;> decide
      obtain ⟨o, e, c, d⟩ := id st2
      exact ⟨_, rfl, go_of (s := { s with heap := h2, toks := s.toks + 1 }) e c d hno ⟨.str ⟨#[x.cps[i]]⟩, H, J, ⟨_, rfl⟩, ⟨rfl, _, hx, rfl⟩, st2, f0⟩⟩
    rcases hty with e | e
    · subst e
      exact wpAny_pyNext_ascii_item st hx fun h2 st2 sb => fin h2 st2 sb
    · subst e
      exact wpAny_pyNext_wide_item st hx fun h2 st2 sb => fin h2 st2 sb
  · subst p1 p2 p3
    obtain ⟨f0, f1, f2, f3, f4, f5⟩ := hf
    have hx : x.cps[i]? = none := Array.getElem?_eq_none hg
    have fin : ∀ h2 : Heap, (∀ b o, b ≠ it → s.heap.get? b = some o → h2.get? b = some o) → (none : Option Value) = none ∧ Inv X pins sv H { s with heap := h2 } := fun h2 eb => ⟨rfl, I.turned (t' := s.toks) (fun b o hb e => eb b o hb e) f0 f1 f3 f4 f5⟩
    rcases hty with e | e
    · subst e
      exact end_ascii hot st hx fin
    · subst e
      exact end_wide hot st hx fin
  · rcases hty with e | e
    · rw [e] at st; exact wpAny_pyIter_striter_ascii st h
    · rw [e] at st; exact wpAny_pyIter_striter_wide st h
end
section
variable {X : Cx} {tg : Expr}
theorem pig_new {pins : List (Addr × Obj)} {sv : St} {H : Hp} {s : Shared} {R : It → Hp → Prop} {J : It} {tn : Nat → Heap → Prop} {o : Obj} (I : Inv X pins sv H s) (T : TurnG HotG X.prog X.w X.K tg J [s.heap.objs.size] s.heap.objs.size tn) (h : tn 0 (s.heap.push o)) (q : R J H) :
    PIEG HotG X pins sv tg R (.ref s.heap.objs.size) { s with heap := s.heap.push o } :=
  ⟨s.heap.objs.size, _, _, _, H, rfl, I.kept (t' := s.toks) fun b o e => Heap.get?_push_of_some _ e, T, h, fun b hb => by rw [mem1 hb]; exact I.fpOk (Nat.le_refl _) (I.hok.fresh (Nat.le_refl _)), q⟩
theorem pig_list {l : Expr} {tl : TE} (hl : PE X l tl) : PIG HotG X tg l (iList X.K tl) := ⟨fun pins s sv H R I h => thn (hl.run pins s sv H _ I h) fun v s1 ⟨x, H1, I1, r1, a, e, ⟨xs, hq⟩, q⟩ => by
  subst e
  cases r1
  obtain ⟨its, rv, p, hz⟩ := I1.list hq
  exact wpAny_pyIter_list p.isList (pig_new I1 (turn_gl a _) ⟨_, Heap.get?_push_size _ rfl, rfl, rfl⟩ q)⟩
theorem pig_tup {l : Expr} {tl : TE} (hl : PE X l tl) : PIG HotG X tg l (iTup X.K tl) := ⟨fun pins s sv H R I h => thn (hl.run pins s sv H _ I h) fun v s1 ⟨x, H1, I1, r1, a, e, ⟨xs, hq⟩, q⟩ => by
  subst e
  cases r1
  obtain ⟨its, rv, p, hz⟩ := I1.tuple hq
  have tp : s1.heap.IsTuple a its.toArray := p
  exact wpAny_pyIter_tuple tp (pig_new I1 (turn_gt a _) ⟨_, Heap.get?_push_size _ rfl, rfl, rfl⟩ q)⟩
theorem pig_str {l : Expr} {tl : TE} (hl : PE X l tl) : PIG HotG X tg l (iStr tl) := ⟨fun pins s sv H R I h => thn (hl.run pins s sv H _ I h) fun v s1 ⟨y, H1, I1, r1, x, e, q⟩ => by
  subst e
  obtain ⟨t, rfl⟩ := r1
  cases ha : x.cps.all (· < 128)
  · exact wpAny_pyIter_wide ha (pig_new I1 (turn_gs _ x t "str_iterator" (.inr rfl)) ⟨_, Heap.get?_push_size _ rfl, rfl, rfl⟩ q)
  · exact wpAny_pyIter_ascii ha (pig_new I1 (turn_gs _ x t "str_ascii_iterator" (.inl rfl)) ⟨_, Heap.get?_push_size _ rfl, rfl, rfl⟩ q)⟩
end
end Sl
/-! S19: raise, calls, try, isinstance where an error is handled. -/
namespace Sl
open PySem PySem.Spec PyProof.Rows L2 HotX
/-! ### raise -/
section
variable {X : Cx} {cv tv : Nat → Value} {W : WX} {O : Oracle} {p : Addr × Obj}
theorem ps_raiseV {e : Expr} {t : St → Hp → XK → Prop} {pos : Pos} (hot : L2H.Hot1 X.A p) (hp : p ∈ X.pn) (tk : TakesV (.ref p.1) X W) (he : L2N.PMk X e t) : PS X (.Raise (some e) none pos) (fun _ sv H => t sv H fun cls d H' => W cls d sv H') := ⟨fun pins s sv H D I h => by
  obtain ⟨hh, v1, e1, c1⟩ := hot
  show wpAny _ _ (do standAt pos; raiseStmt X.env (some (do let v ← eval e X.env; standAt pos; pure v)) none) _ _ _
  refine wpAny_bind (wpAny_standAt (raise_made_hot (x1 := p.1) (wpAny_bind (wpAny_mono (he pins s sv H _ I h) (fun u t1 hu => wpAny_bind (wpAny_standAt (wpAny_pure ?_))) fun _ _ z => z))))
  obtain ⟨a, oe, vs, sI, H', cls, d, rfl, J, k, hne, ha, hz, hd, h1, na, os, ag, r, q⟩ := hu
  obtain ⟨r1, r2⟩ := r (model X.prog X.w) t1.heap (J.kIn.keeps k)
  have pin := (J.pin p (List.mem_append_left _ hp)).1
  have nap : p.1 ≠ a := fun z => by
    rw [z, hne] at pin
    cases pin
  have hi : 2 < vs.size := (Array.getElem?_eq_some_iff.mp (hz.2.2 vs hd)).1
  have at1 : (vs.setIfInBounds 2 (Value.ref p.1))[1]? = some Value.none := by
    have e3 : (vs.setIfInBounds 2 (Value.ref p.1))[1]? = vs[1]? := by simp [Array.getElem?_setIfInBounds]
    exact e3.trans h1
  have at2 : (vs.setIfInBounds 2 (Value.ref p.1))[2]? = some (Value.ref p.1) := by simp [Array.getElem?_setIfInBounds, hi]
  have get : (t1.heap.update a (Obj.mapFields (·.setIfInBounds 2 (.ref p.1)))).get? a = some (Obj.mapFields (·.setIfInBounds 2 (.ref p.1)) oe) := Heap.get?_update_self _ ha (Obj.isFreed_of_fields (Obj.data_mapFields hd _))
  refine ⟨a, oe, vs, cls, rfl, ha, hz.1, hd, h1, hi, nap, ⟨hh, p.2, v1, k _ _ pin, e1, c1⟩, r1, r2, tk _ _ ⟨L2.XE.new J (fun b u z => ?_) hne get ⟨(Obj.cls_mapFields ..).trans hz.1, (HandSPX.dict_mapFields ..).trans hz.2.1⟩ (Obj.data_mapFields hd _) at1 na os ag q, a, _, rfl, get, fun ws ew => ?_⟩⟩
  · have nab : a ≠ b := fun y => by
      rw [← y, hne] at z
      cases z
    exact (Heap.get?_update_other t1.heap (Obj.mapFields (·.setIfInBounds 2 (.ref p.1))) nab).trans (k b u z)
  · rw [Obj.data_mapFields hd] at ew
    cases ew
    exact at2⟩
theorem ds_raiseV {a : Addr} {oe : Obj} {c : Nat} {x m : Str} {j : Nat} {p1 p2 cp pos : Pos} (C : Xc X.K X.mg x (cv c)) (R : Xr X.K (cv c)) (hot : L2H.Hot1 X.A (a, oe)) (hp : (a, oe) ∈ X.pn) (tk : TakesV (.ref a) X W) (hg : Gl X x := by rfl) (hdb : (x == ("__debug__" : Str)) = false := by decide) :
    PS X (.Raise (some (.Call (.Name x p1) [.Constant (.str m) j p2] [] cp)) none pos) (tsOf X.K cv W (wS O (.raise c))) := by
  obtain ⟨C1, e1, gC, kC⟩ := C.ex
  obtain ⟨C2, e2, q, hb, ht, _⟩ := R.ex
  have e3 := e1.symm.trans e2
  cases e3
  refine PSt.imp (ps_raiseV hot hp tk (L2N.pmk_own PySem.F.excBase_ValueError q gC kC (raises_own hb ht) hg hdb)) fun D sv H ⟨φ, σ, M, En, rs, m, w, px⟩ => ?_
  rw [wS] at w
  have z := px.ex φ c σ M sv H (Fr.refl _ _) rs m w
  rw [e1] at z
  exact z
end
/-! ### a def called where an error is handled; it may raise -/
/-- what it wants -/
def spV (K : PySem.W.Frag) (cv : Nat → Value) (O : Oracle) (c a f na : Nat) (vs : List V) (H : Hp) (Q : VK) (E : XK) : Prop := vs.length = na ∧ ∃ φ M ds Qp Ep, RM K H φ M ∧ Reps K H φ vs ds ∧ O (2000 + f) (.exc c a :: ds) M Qp Ep ∧ Post K φ H Q Qp ∧
  (∀ φ' c' M' H', Fr φ H φ' H' → RM K H' φ' M' → Ep c' M' → E (cv c') none H')
structure FnV (P : Program) (w : World) (K : PySem.W.Frag) (mg : Str → Option Value) (base : Heap) (cv : Nat → Value) (O : Oracle) (k : Nat) (fa : Addr) (fd : FuncData) (ps : List Str) (f : Nat) : Prop where
  run : ∀ (A : Around) (outer : List Env) (s : Shared) (H : Hp) (us : List Value) (vs : List V) (Q : VK) (E : XK) (a c : Nat) (oe : Obj), L2H.RoomH k A → L2H.Hot1 A (a, oe) → L2H.PinOk outer H s (a, oe) → Env0 P w K mg base A outer s H → BindsTo s fd ⟨us, []⟩ (ps.zip us) →
    Vals vs us → spV K cv O c a f ps.length vs H Q E → codeAny (model P w) A (.call (.ref fa) ⟨us, []⟩) (CR (CXv (.ref a) P w) outer P w H s Q E) s
section
variable {P : Program} {w : World} {K : PySem.W.Frag} {mg : Str → Option Value} {base : Heap} {cv : Nat → Value} {PP : Nat → Option Fn}
abbrev cxV (P : Program) (w : World) (K : PySem.W.Frag) (mg : Str → Option Value) (base : Heap) (N : List Str) (x : Str) (sc : Scope) (fa : Addr) (cdv : Value) (A : Around) (outer : List Env) (s : Shared) (H : Hp) (E : XK) (a : Addr) (oe : Obj) : Cx :=
  L2H.cxH (CXv (.ref a) P w) P w K mg base N x sc fa cdv A outer s H E (a, oe)
theorem fnv_mk {x : Str} {f n : Nat} {d : Fn} {st : Stmt} {fa : Addr} {fd : FuncData} {N ps : List Str} (hP : PP f = some d) (F : Fun K x x st fa fd) (S : FnScope N ps (defScope st)) (hN : N.length = d.nslots) (hp : ps.length = d.nargs)
    (hb : ∀ (cdv : Value) (A : Around) (outer : List Env) (s : Shared) (H : Hp) (E : XK) (a c : Nat) (oe : Obj), L2H.RoomH n (A.deeper (envOfC x (defScope st) s.heap.objs.size fa cdv)) → L2H.Hot1 (A.deeper (envOfC x (defScope st) s.heap.objs.size fa cdv)) (a, oe) →
      TakesV (.ref a) (cxV P w K mg base N x (defScope st) fa cdv A outer s H E a oe) (fun cls d _ H => E cls d H) →
      PassesOwn (model P w) (A.deeper (envOfC x (defScope st) s.heap.objs.size fa cdv)) (envOfC x (defScope st) s.heap.objs.size fa cdv) (cxV P w K mg base N x (defScope st) fa cdv A outer s H E a oe).xe →
      PSs (cxV P w K mg base N x (defScope st) fa cdv A outer s H E a oe) (defBody st) (tsOf K cv (fun cls d _ H => E cls d H) (wS ((wF PP n).ex c a) d.body))) : FnV P w K mg base cv (wF PP (n + 1)) (n + 1) fa fd ps f := by
  obtain ⟨oc, od, kV, doc, pm, an, cdv, ct, osl, rfl, lk, hcd⟩ := F.ex
  refine ⟨fun A outer s H us vs Q E a c oe hr hot pin e0 bt r hsp => ?_⟩
  obtain ⟨hl, φ, M, ds, Qp, Ep, m, rr, wf, p, px⟩ := hsp
  have kin : K.In s.heap := e0.mod.kin.keeps fun b o e => (e0.bs b o e).1
  have nol : s.heap.NoLimit := e0.mod.nolimit.keeps fun b o e => (e0.bs b o e).1
  refine codeAny_call_function hr.depth (kin _ _ lk) rfl S.co S.gen rfl (PySem.W.codeRec_of kin hcd) (bt _ _ _ _ ?_)
  refine wpAny_newFunctionEnv_cells S.kind (fun y hy => ?_) fun env he s1 ic => ?_
  · rcases S.par y.1 (List.of_mem_zip (show (y.1, y.2) ∈ ps.zip us from hy)).1 with k | k
    · exact .inl k
    · exact .inr ⟨k, PySem.W.cellsFrom_some _ _ _ (.inl k)⟩
  subst he
  refine ⟨nol.keeps ic.toInCall.keep, codeAny_func ?_⟩
  have J := L2H.inv_startH (CX := CXv (.ref a) P w) (E := E) S pin e0 hl r ic
  rw [wF] at wf
  rw [if_neg (by omega), show 2000 + f - 2000 = f by omega, hP] at wf
  have q : tsOf K cv (fun cls d _ H => E cls d H) (wS ((wF PP n).ex c a) d.body) { nx := fun _ H' => Q .non H', rt := Q } (L2.start N vs) H :=
    ⟨φ, _, M, _, rs_start rr (m := d.nslots - d.nargs) (by rw [hN, hl, hp]), m, wf.2, ⟨fun φ' σ' M' sv' H' f rs' m' q => p.ok _ _ _ _ _ f m' .non q, fun φ' v d' M' H' f m' r' q => p.ok _ _ _ _ _ f m' r' q, fun φ' c' σ' M' sv' H' f rs' m' q => px _ _ _ _ f m' q⟩⟩
  refine wpAny_mono ((hb cdv A outer s H E a c oe (hr.deeper _) hot (takesv_of rfl rfl rfl rfl) (passes_of rfl)).run [] s1 _ H _ J q) (fun fl s' hs => ?_) fun e s' z => z
  cases fl with
  | ret u =>
    obtain ⟨v, σ', H', J', rv, z⟩ := hs
    exact ⟨v, H', J'.os, J'.bare, J'.base, J'.hok, rv, z⟩
  | next =>
    obtain ⟨σ', H', J', z⟩ := hs
    exact ⟨V.non, H', J'.os, J'.bare, J'.base, J'.hok, rfl, z⟩
  | brk => obtain ⟨_, _, _, z⟩ := hs; exact False.elim z
  | cont => obtain ⟨_, _, _, z⟩ := hs; exact False.elim z
structure ClV (P : Program) (w : World) (K : PySem.W.Frag) (mg : Str → Option Value) (base : Heap) (cv : Nat → Value) (O : Oracle) (k : Nat) (x : Str) (f na : Nat) : Prop where
  ex : ∃ fa fd ps, FnV P w K mg base cv O k fa fd ps f ∧ ps.length = na ∧ mg x = some (.ref fa) ∧ PySem.W.keepIn K (.ref fa) = true ∧ Binds K fd ps []
  hn : ∀ c a ds M Q E, O (2000 + f) (.exc c a :: ds) M Q E → ds.length = na
theorem wF_lenV {n f : Nat} {d : Fn} (hP : PP f = some d) : ∀ c a ds M Q E, wF PP n (2000 + f) (.exc c a :: ds) M Q E → ds.length = d.nargs := by
  intro c a ds M Q E w
  cases n with
  | zero => exact w.elim
  | succ n =>
    rw [wF] at w
    rw [if_neg (by omega), show 2000 + f - 2000 = f by omega, hP] at w
    exact w.1
theorem clv_mk {x : Str} {f n : Nat} {d : Fn} {st : Stmt} {ps : List Str} (hP : PP f = some d) (u : Fu K mg x st ps) (hl : ps.length = d.nargs) (h : ∀ fa fd, Fun K x x st fa fd → FnV P w K mg base cv (wF PP (n + 1)) (n + 1) fa fd ps f) : ClV P w K mg base cv (wF PP (n + 1)) (n + 1) x f d.nargs := by
  obtain ⟨fa, fd, F, hm, b⟩ := u.ex
  exact ⟨⟨fa, fd, ps, h fa fd F, hl, hm, F.kp, .all b⟩, wF_lenV hP⟩
theorem clv_zero {x : Str} {f : Nat} {d : Fn} {st : Stmt} {ps : List Str} (hP : PP f = some d) (u : Fu K mg x st ps) (hl : ps.length = d.nargs) : ClV P w K mg base cv (wF PP 0) 0 x f d.nargs := by
  obtain ⟨fa, fd, F, hm, b⟩ := u.ex
  exact ⟨⟨fa, fd, ps, ⟨fun A outer s H us vs Q E a c oe hr hot pin e0 bt r hsp => by obtain ⟨_, _, _, _, _, _, _, _, z, _⟩ := hsp; exact z.elim⟩, hl, hm, F.kp, .all b⟩, wF_lenV hP⟩
end
section
variable {X : Cx} {cv : Nat → Value} {W : WX} {O : Oracle} {c : Nat} {a : Addr} {oe : Obj}
theorem dcallV {x : Str} {k f na : Nat} {e : Expr} {es : List Expr} {las : LA} {cp pos : Pos} (F : ClV X.prog X.w X.K X.mg X.base cv O k x f na) (hr : L2H.RoomH k X.A) (hot : L2H.Hot1 X.A (a, oe)) (hp : (a, oe) ∈ X.pn) (tk : TakesV (.ref a) X W) (ha : PA X (e :: es) (taOf X.K cv W (wA (O.ex c a) las)))
    (hf : f ≠ 999 := by decide) (hg : Gl X x := by rfl) (hdb : (x == ("__debug__" : Str)) = false := by decide) (he : starEach (e :: es) X.env = (false, eval e X.env) :: starEach es X.env := by rfl) (hpl : (backTo pos (starEach es X.env)).any (·.1) = false := by rfl) :
    PE X (.Call (.Name x cp) (e :: es) [] pos) (tOf X.K cv W (wE (O.ex c a) (.call f las))) := ⟨fun pins s sv H Q I ⟨φ, σ, M, Qp, Ep, rs, m, w, p0, px⟩ => by
  obtain ⟨fa, fd, ps, G, hl, gF, kF, bF⟩ := F.ex
  rw [wE] at w
  refine wpAny_Call_Name_kw (ld_glob I hg gF ?_ hdb)
  refine PySem.W.callWith_K (h₀ := X.base) I.ok.mod.kin kF (thn (ha.run pos pins s sv H (fun vs H1 => spV X.K cv O c a f ps.length vs H1 Q fun cls d H' => W cls d sv H') I (taOf.step rs m w px fun φ1 xs ds M1 H1 f1 rs1 m1 r1 px1 w1 => ?_)) fun us s1 hh => ?_) he hpl
  · unfold Oracle.ex at w1
    rw [if_neg hf] at w1
    exact ⟨by rw [hl, r1.len]; exact F.hn _ _ _ _ _ _ w1, φ1, M1, ds, Qp, Ep, m1, r1, w1, p0.fr f1, px1⟩
  · obtain ⟨vs, H1, I1, r1, q⟩ := hh
    refine ⟨I1.kIn, ?_⟩
    have ul : us.length = ps.length := by rw [← r1.length]; exact q.1
    have bt := bF s1 us I1.kIn (by rw [List.append_nil]; exact ul)
    rw [List.append_nil] at bt
    have pin := I1.pin (a, oe) (List.mem_append_left _ hp)
    have pok : L2H.PinOk X.stack H1 s1 (a, oe) := ⟨pin.1, pin.2.1, fun hm => (List.mem_cons.mp (I1.stkSub a hm)).elim pin.2.2.1 pin.2.2.2.1, pin.2.2.2.2⟩
    refine wpAny_call (codeAny_mono (G.run X.A X.stack s1 H1 us vs Q _ a c oe hr hot pok I1.env0 bt r1 q) fun r s' hq => ?_)
    cases r with
    | error e => exact tk e s' (xev_call I1 (fun _ _ _ z => z) hq)
    | ok fl =>
      cases fl with
      | ret u => exact I1.after hq
      | next => exact False.elim hq
      | brk => exact False.elim hq
      | cont => exact False.elim hq⟩
end
/-! ### try: body, except x as n: suite -/
section
variable {X : Cx} {x : Value} {y n : Str} {cl : Value} {i : Nat} {body suite : List Stmt} {b₀ : Stmt} {np hp pos : Pos} {tb : WX → TS} {ts : Addr → Value → Option Addr → TS} {Wo : WX}
theorem ps_try_asV (hs : X.stack = X.env :: X.outer) (hf : X.env.frame = some X.env.locals) (hN : X.N.Nodup) (hi : X.N[i]? = some n) (hln : X.env.kindOf n = some .local) (hc : Names X y cl) (tk : TakesV x X Wo)
    (hb : ∀ (W : WX) (pn : List (Addr × Obj)) (xe : Value → Shared → Prop), (∀ q ∈ X.pn, q ∈ pn) → TakesV x (X.tr pn xe) W → PassesOwn (model X.prog X.w) X.A X.env xe → PSs (X.tr pn xe) body (tb W))
    (hsu : ∀ (a : Addr) (oe : Obj) (cls : Value) (d : Option Addr) (pn : List (Addr × Obj)), Zv x cls d oe → (∃ vs, oe.data = .fields vs) → (∀ q ∈ X.pn, q ∈ pn ∧ q.1 ≠ a) → PSs (X.suite a ((a, oe) :: pn)) (b₀ :: suite) (ts a cls d)) :
    PS X (.Try body [.ExceptHandler (some (.Name y np)) (some n) (b₀ :: suite) hp] [] [] pos) (fun D sv H => tb (wAs X.K cl i ts Wo D) D sv H) := ⟨fun pins s sv H D I h => by
  have ok := I.ok
  have afr : X.A.frames = some (X.env :: X.outer) := ok.frames.trans (by rw [hs])
  refine wpAny_Try_except ?_
  refine wpAny_mono ((hb (wAs X.K cl i ts Wo D) (X.pn ++ pins) (fun e t1 => wpAny (model X.prog X.w) X.A (noteFrame e X.env) (fun _ t2 => wpAny (model X.prog X.w) X.A (setFlight e none) (fun _ t3 =>
    wpAny (model X.prog X.w) X.A (handleBy e X.env [.ExceptHandler (some (.Name y np)) (some n) (b₀ :: suite) hp]) (SP X pins D) X.xe t3) X.xe t2) X.xe t1) (fun q hq => List.mem_append_left _ hq) (fun u t xx => ?_) PassesOwn.looking).run [] s sv H D (I.toTry _) h) (fun f t1 q1 => ?_) fun _ _ z => z
  · obtain ⟨⟨a, B, sI, ps, sv1, H1, cls, d, rfl, J0, nb, up, sky, na, os, ag, b, hm, yes, no⟩, a', o', ea, eo, cx⟩ := xx
    cases ea
    have J : Inv X pins sv1 H1 sI := J0.ofTry ok
    have skv : Sky B (X.env :: X.outer) a (Zv x cls d) X.env.locals t.heap := by
      rw [← hs]
      refine sky_to (fun o q z => ?_) sky
      rw [eo] at q
      cases q
      exact ⟨z, cx⟩
    show wpAny (model X.prog X.w) X.A (noteFrame (.ref a) X.env) _ _ _
    refine L2N.Sky.land zv_steady afr hf skv fun h3 fl3 up3 => ?_
    have J3 : Inv X pins sv1 H1 { t with heap := h3 } := J.landed nb fl3.1 (up.trans up3) os ag
    obtain ⟨o3, v3, g3, z3, d3⟩ := fl3.there
    have out : a ∉ frs (X.env :: X.outer) := fun hm => by
      obtain ⟨_, o, eo, nf⟩ := fl3.2.2.1.mem hm
      rw [g3] at eo
      cases eo
      exact nf _ d3
    have nL : a ≠ X.env.locals := fun z => out (List.mem_filterMap.mpr ⟨X.env, List.mem_cons_self, by rw [hf, z]⟩)
    have nF : a ∉ X.fs := fun hm => by
      obtain ⟨e, he, q⟩ := List.mem_filterMap.mp hm
      exact out (List.mem_filterMap.mpr ⟨e, List.mem_cons_of_mem _ he, q⟩)
    have old : ∀ q ∈ X.pn, q ∈ X.pn ++ pins ∧ q.1 ≠ a := fun q hq => ⟨List.mem_append_left _ hq, fun z => by
      obtain ⟨p1, _, p3, p4, _⟩ := J.pin q (List.mem_append_left _ hq)
      have nfr : q.1 ∉ frs X.stack := fun k => (List.mem_cons.mp (J.stkSub _ k)).elim p3 p4
      have inB := nb q.1 q.2 p1 nfr
      rw [z, fl3.2.1] at inB
      cases inB⟩
    have S3 := J3.suite g3 d3 na nL nF
    refine wpAny_handleBy_cons (codeAny_handlers_test ?_) (fun q => by cases q)
    have looks : PySem.W.Looks (model X.prog X.w) h3 (typeOf (.ref a)) cls := fun A Q E s k q => wpAny_typeOf_ref (k _ _ g3) (by rw [z3.1.1]; exact q)
    have tells := PySem.W.exm_one (M := model X.prog X.w) (J3.kIn) looks hm
    have named : ∀ {Q : Value → Shared → Prop} {E : Value → Shared → Prop}, Q cl { t with heap := h3 } → wpAny (model X.prog X.w) (X.A.mark (some (.ref a))) (eval (.Name y np) X.env) Q E { t with heap := h3 } := fun {Q E} q => by
      obtain ⟨g, dbg, m | ⟨m, v, nn⟩⟩ := hc
      · exact ld_glob (X := X.suite a ((a, o3) :: (X.pn ++ pins))) S3 g m q dbg
      · exact ld_blt (X := X.suite a ((a, o3) :: (X.pn ++ pins))) S3 g m v q nn dbg
    refine named (tells.here ?_)
    cases b with
    | true =>
      refine codeAny_handlers_suite_as ?_
      refine HandSPX.lands_againZ fl3 fun h4 fl4 up4 => ?_
      have J4 : Inv X pins sv1 H1 { t with heap := h4 } := J.landed nb fl4.1 ((up.trans up3).trans up4) os ag
      obtain ⟨o4, v4, g4, z4, d4⟩ := fl4.there
      refine store_ok (X := X.suite a ((a, o4) :: (X.pn ++ pins))) (v := .ref a) (J4.suite g4 d4 na nL nF) hN hi (.inl hln) rfl (fun t5 S5 => ?_) (.inr hln)
      refine wpAny_mono ((hsu a o4 cls d (X.pn ++ pins) z4 ⟨_, d4⟩ old).run [] t5 _ H1 _ S5 (yes rfl a na)) (fun f t6 q6 => ?_) (fun _ _ z => False.elim z)
      have leave : ∀ {sv6 : St} {H6 : Hp} {R : Shared → Prop}, Inv (X.suite a ((a, o4) :: (X.pn ++ pins))) [] sv6 H6 t6 → (∀ t7, Inv X pins (sv6.set i none) H6 t7 → R t7) →
          wpAny (model X.prog X.w) X.A (do bindName X.env n .none; unbindBehindTheSuite X.env n hp) (fun _ t7 => R t7) X.xe t6 := fun {sv6 H6 R} S6 hq => gone_ok (S6.unsuite ok) hN hi hln hq
      cases f with
      | next =>
        obtain ⟨_, _, S6, q⟩ := q6
        exact leave S6 fun t7 J7 => ⟨_, _, J7, q⟩
      | brk =>
        obtain ⟨_, _, S6, q⟩ := q6
        exact leave S6 fun t7 J7 => ⟨_, _, J7, q⟩
      | cont =>
        obtain ⟨_, _, S6, q⟩ := q6
        exact leave S6 fun t7 J7 => ⟨_, _, J7, q⟩
      | ret u =>
        obtain ⟨_, _, _, S6, r, q⟩ := q6
        exact leave S6 fun t7 J7 => ⟨_, _, _, J7, r, q⟩
    | false =>
      show wpAny _ X.A (handleBy (.ref a) X.env []) _ _ _
      refine wpAny_handleBy_nil ?_
      obtain ⟨k1, k2, k3, oe, vs, T, oT, tt, g, z, dd, at1, rr⟩ := id fl3
      unfold PySem.passOn
      refine wpAny_bind (wpAny_field g dd at1 ?_)
      rw [if_neg (show ¬ ((Value.ref T == Value.none) = true) from Bool.false_ne_true)]
      have fin : wpAny (model X.prog X.w) X.A (setFlight (.ref a) X.env.frame) (fun _ t4 => wpAny (model X.prog X.w) X.A (throw (.ref a) : Sem Flow) (SP X pins D) X.xe t4) X.xe { t with heap := h3 } := by
        rw [hf]
        refine HandSPX.setFlight_upZ fl3 fun h4 held up4 => wpAny_throw (tk _ _ ⟨⟨a, B, sI, pins, sv1, H1, cls, d, rfl, J, nb, (up.trans up3).trans up4, .inr (.inr ?_), na, os, ag, no rfl⟩, ?_⟩)
        · rw [hs]
          exact ⟨held.1, held.2.1, held.2.2.1, traced_to (fun _ _ z => z.1) held.2.2.2⟩
        · obtain ⟨o5, w5, e5, z5, _⟩ := sky_obj (l := X.env :: X.outer) (L := X.env.locals) (.inr (.inr held))
          exact ⟨a, o5, rfl, e5, z5.2⟩
      first
      | exact wpAny_bind (wpAny_pure (wpAny_bind fin))
      | exact wpAny_bind fin
  · cases f with
    | next =>
      obtain ⟨_, _, J, q⟩ := q1
      exact wpAny_execs_nil ⟨_, _, J.ofTry ok, q⟩
    | brk =>
      obtain ⟨_, _, J, q⟩ := q1
      exact ⟨_, _, J.ofTry ok, q⟩
    | cont =>
      obtain ⟨_, _, J, q⟩ := q1
      exact ⟨_, _, J.ofTry ok, q⟩
    | ret u =>
      obtain ⟨_, _, _, J, r, q⟩ := q1
      exact ⟨_, _, _, J.ofTry ok, r, q⟩⟩
end
/-! ### .. by what a text wants -/
section
variable {X : Cx} {cv tv : Nat → Value} {W : WX} {O : Oracle}
theorem ds_tryV {x : Value} {i cls : Nat} {y n : Str} {body suite : List Stmt} {b₀ : Stmt} {np pos hp : Pos} {lb lh : LS} (hs : X.stack = X.env :: X.outer) (hf : X.env.frame = some X.env.locals) (hN : X.N.Nodup) (hc : Names X y (tv cls)) (tk : TakesV x X W)
    (hx : ∀ c, PySem.W.exmOne X.K (cv c) (tv cls) = some (excLe c cls))
    (hb : ∀ (W : WX) (pn : List (Addr × Obj)) (xe : Value → Shared → Prop), (∀ q ∈ X.pn, q ∈ pn) → TakesV x (X.tr pn xe) W → PassesOwn (model X.prog X.w) X.A X.env xe → PSs (X.tr pn xe) body (tsOf X.K cv W (wS O lb)))
    (hsu : ∀ (a : Addr) (oe : Obj) (pn : List (Addr × Obj)) (c : Nat), Zv x (cv c) none oe → (∃ vs, oe.data = .fields vs) → (∀ q ∈ X.pn, q ∈ pn ∧ q.1 ≠ a) → PSs (X.suite a ((a, oe) :: pn)) (b₀ :: suite) (tsOf X.K cv W0 (wS (O.ex c a) lh)))
    (hi : X.N[i]? = some n := by rfl) (hln : X.env.kindOf n = some .local := by rfl) :
    PS X (.Try body [.ExceptHandler (some (.Name y np)) (some n) (b₀ :: suite) hp] [] [] pos) (tsOf X.K cv W (wS O (.tryx lb cls (some i) lh))) := by
  refine PSt.imp (ps_try_asV (i := i) (cl := tv cls) (tb := fun W => tsOf X.K cv W (wS O lb)) (ts := fun a v d D sv H => ∃ c, (v = cv c ∧ d = none) ∧ tsOf X.K cv W0 (wS (O.ex c a) lh) D sv H) hs hf hN hi hln hc tk hb
    fun a oe v d pn hz hd old => pss_ex fun c e => ?_) fun D sv H ⟨φ, σ, M, En, rs, m, w, p⟩ => ?_
  · obtain ⟨e1, e2⟩ := e
    subst e1 e2
    exact hsu a oe pn c hz hd old
  · rw [wS] at w
    refine ⟨φ, σ, M, _, rs, m, w, ⟨p.nx, p.rt, fun φ' c σ' M' sv' H' f' rs' m' q => ?_⟩⟩
    refine ⟨excLe c cls, hx c, fun hy a ha => ?_, fun hn => ?_⟩
    · dsimp only at q
      rw [hy] at q
      exact ⟨c, ⟨rfl, rfl⟩, φ', _, M', _, rs'.set (.exc a c), m', q a, ⟨fun φ'' σ'' M'' sv'' H'' f'' rs'' m'' q'' => p.nx _ _ M'' _ H'' (f'.trans f'') (rs''.gone i) m'' q'', fun φ'' v d M'' H'' f'' => p.rt φ'' v d M'' H'' (f'.trans f''), fun _ _ _ _ _ _ _ _ _ z => z⟩⟩
    · dsimp only at q
      rw [hn] at q
      exact p.ex φ' c σ' M' sv' H' f' rs' m' q
/-- try without a name, where nothing is handled -/
theorem ds_try_none {cls : Nat} {y : Str} {body suite : List Stmt} {b₀ : Stmt} {np pos hp : Pos} {lb lh : LS} (hs : X.stack = X.env :: X.outer) (hf : X.env.frame = some X.env.locals) (hc : Names X y (tv cls)) (tk : L2N.Takes X W)
    (hx : ∀ c, PySem.W.exmOne X.K (cv c) (tv cls) = some (excLe c cls))
    (hb : ∀ (W : WX) (pn : List (Addr × Obj)) (xe : Value → Shared → Prop), L2N.Takes (X.tr pn xe) W → PassesOwn (model X.prog X.w) X.A X.env xe → PSs (X.tr pn xe) body (tsOf X.K cv W (wS O lb)))
    (hsu : ∀ (a : Addr) (oe : Obj) (pn : List (Addr × Obj)) (c : Nat), L2N.Zn (cv c) none oe → (∃ vs, oe.data = .fields vs) → PSs (X.suite a ((a, oe) :: pn)) (b₀ :: suite) (tsOf X.K cv W0 (wS (O.ex c a) lh))) :
    PS X (.Try body [.ExceptHandler (some (.Name y np)) none (b₀ :: suite) hp] [] [] pos) (tsOf X.K cv W (wS O (.tryx lb cls none lh))) := by
  refine PSt.imp (L2N.ps_try_many (l := [(tv cls, fun a v d D sv H => ∃ c, (v = cv c ∧ d = none) ∧ tsOf X.K cv W0 (wS (O.ex c a) lh) D sv H)]) (tb := fun W => tsOf X.K cv W (wS O lb)) hs hf tk hb
    (.cons hc (fun a oe v d pn hz hd => pss_ex fun c e => ?_) .nil)) fun D sv H ⟨φ, σ, M, En, rs, m, w, p⟩ => ?_
  · obtain ⟨e1, e2⟩ := e
    subst e1 e2
    exact hsu a oe pn c hz hd
  · rw [wS] at w
    refine ⟨φ, σ, M, _, rs, m, w, ⟨p.nx, p.rt, fun φ' c σ' M' sv' H' f' rs' m' q => ?_⟩⟩
    refine ⟨excLe c cls, hx c, fun hy a ha => ?_, fun hn => ?_⟩
    · dsimp only at q
      rw [hy] at q
      exact ⟨c, ⟨rfl, rfl⟩, φ', _, M', _, rs', m', q a, ⟨fun φ'' σ'' M'' sv'' H'' f'' rs'' m'' q'' => p.nx _ _ M'' _ H'' (f'.trans f'') rs'' m'' q'', fun φ'' v d M'' H'' f'' => p.rt φ'' v d M'' H'' (f'.trans f''), fun _ _ _ _ _ _ _ _ _ z => z⟩⟩
    · dsimp only at q
      rw [hn] at q
      exact p.ex φ' c σ' M' sv' H' f' rs' m' q
/-- isinstance of the handled error, whatever its context -/
theorem isE_zc {a D : Addr} {oe : Obj} (C : ExcC X.K D) (hp : (a, oe) ∈ X.pn) (hz : Zc (.ref D) none oe) (hf : ∃ vs, oe.data = .fields vs) : CallR X (.builtin "isinstance") (rIsE X.K D a) := fun pins s σ H xs us Q I r h => by
  obtain ⟨c, u2, b, rfl, hu, e, q⟩ := h
  match us, r with
  | [_, t], .cons rx (.cons rt .nil) =>
    have rx : _ = Value.ref a := rx
    subst rx
    have e2 := hu _ rt
    subst e2
    have get := (I.pin (a, oe) (List.mem_append_left _ hp)).1
    have at_ : PySem.W.InstAt s.heap a oe D none := by
      obtain ⟨vs, hv⟩ := hf
      cases oe
      obtain ⟨z1, z2⟩ := hz
      dsimp only at z1 z2 hv
      subst z1 z2 hv
      exact ⟨get, rfl, rfl, trivial⟩
    exact PySem.W.kia_one (PySem.W.handS_kitx_exc C.hg C.hk C.hs C.hd C.ha C.hn C.ht C.hm) I.kIn at_ e (fun z => nomatch z) fun tk => ⟨.bl b, H, I.kept (t' := tk) fun _ _ z => z, rfl, q⟩
theorem disEV {c : Nat} {a : Addr} {oe : Obj} (t : Nat) {e : Expr} {le : LE} {y tn : Str} {p p' pos : Pos} (hm : X.mg y = none) (hp : (a, oe) ∈ X.pn) (hz : Zc (cv c) none oe) (hd : ∃ vs, oe.data = .fields vs) (R : Xr X.K (cv c)) (kt : PySem.W.kitOne X.K (cv c) (tv t) = some (excLe c t))
    (ha : PE X e (tOf X.K cv W (wE (O.ex c a) le))) (ht : ∃ v, PE X (.Name tn p') (tC v) ∧ ∀ u, RelV v u → u = tv t) (hg : Gl X y := by rfl) (hb : bootBuiltins y = some (.builtin "isinstance") := by decide +kernel) (hn : y ≠ "__name__" := by decide)
    (hdb : (y == ("__debug__" : Str)) = false := by decide) (he : starEach [e, .Name tn p'] X.env = (false, eval e X.env) :: starEach [.Name tn p'] X.env := by rfl) :
    PE X (.Call (.Name y p) [e, .Name tn p'] [] pos) (tOf X.K cv W (wE (O.ex c a) (.call 999 (.cons le (.cons (.con (.int (t : Nat))) .nil))))) := by
  obtain ⟨v, ht, hv⟩ := ht
  obtain ⟨D, eD, _, _, _, C⟩ := R.ex
  rw [eD] at hz kt
  refine PE.imp (pe_callB (isE_zc C hp hz hd) hg hm hb (pa_cons ha (pa_cons ht pa_nil) he) hn hdb he rfl) fun sv H Q ⟨φ, σ, M, Qp, Ep, rs, m, w, p, px⟩ => ?_
  rw [wE, wA] at w
  refine tOf.step rs m w px fun φ1 z d M1 H1 f1 rs1 m1 r1 px1 w1 => ?_
  rw [wA, wE, wA] at w1
  unfold Oracle.ex at w1
  rw [if_pos rfl] at w1
  cases r1 <;> try exact w1.elim
  obtain ⟨e1, e2, w1⟩ := w1
  subst e1 e2
  exact ⟨v, tv t, _, rfl, hv, kt, p.ok φ1 _ _ M1 H1 f1 m1 (.bl _) (by rw [Int.toNat_natCast] at w1; exact w1)⟩
end
/-! ### loops, comprehensions -/
section
variable {X : Cx} {cv : Nat → Value} {W : WX} {O : Oracle} {a : Expr} {la : LE} {tg : Expr}
theorem PIG.imp {Ct : Cx → Prop} {wi wi' : TI} (h : PIG Ct X tg a wi) (hi : ∀ sv H R, wi' sv H R → wi sv H R) : PIG Ct X tg a wi' := ⟨fun pins s sv H R I q => h.run pins s sv H R I (hi sv H R q)⟩
theorem dl_lstG (ha : PE X a (tOf X.K cv W (wE O la))) : PIG HotG X tg a (tiOf X.K cv W (wSrc O .lst (.cons la .nil))) := PIG.imp (pig_list ha) fun sv H R ⟨φ, σ, M, Qp, Ep, rs, m, w, p, px⟩ => by
  unfold wSrc at w
  rw [wA] at w
  refine tOf.step rs m w px fun φ1 x d M1 H1 f1 rs1 m1 r1 px1 w1 => ?_
  rw [wA] at w1
  cases r1 <;> try exact w1.elim
  rename_i p' n f
  have w1 : (match (match M1[n]? with | some (.lst ds) => some (ds, Hold.live n ds) | _ => none : Option (List D × Hold)) with | some (xs, h) => Qp xs h M1 | none => False) := w1
  cases hM : M1[n]? with
  | none => rw [hM] at w1; exact w1.elim
  | some o =>
    rw [hM] at w1
    cases o with
    | lst ds =>
      obtain ⟨vs, q, t⟩ := m1.sq hM f
      exact ⟨p', rfl, ⟨vs, q⟩, p φ1 _ _ M1 H1 _ f1 m1 w1 (wk_list f)⟩
    | _ => exact w1.elim
theorem dl_tupG (ha : PE X a (tOf X.K cv W (wE O la))) : PIG HotG X tg a (tiOf X.K cv W (wSrc O .tup (.cons la .nil))) := PIG.imp (pig_tup ha) fun sv H R ⟨φ, σ, M, Qp, Ep, rs, m, w, p, px⟩ => by
  unfold wSrc at w
  rw [wA] at w
  refine tOf.step rs m w px fun φ1 x d M1 H1 f1 rs1 m1 r1 px1 w1 => ?_
  rw [wA] at w1
  cases r1 <;> try exact w1.elim
  rename_i p' vs ds h1 h2
  exact ⟨p', rfl, ⟨vs, SqT.of h1⟩, p φ1 _ _ M1 H1 _ f1 m1 w1 (wk_tup h1 h2)⟩
theorem dl_strG (ha : PE X a (tOf X.K cv W (wE O la))) : PIG HotG X tg a (tiOf X.K cv W (wSrc O .str (.cons la .nil))) := PIG.imp (pig_str ha) fun sv H R ⟨φ, σ, M, Qp, Ep, rs, m, w, p, px⟩ => by
  unfold wSrc at w
  rw [wA] at w
  refine tOf.step rs m w px fun φ1 x d M1 H1 f1 rs1 m1 r1 px1 w1 => ?_
  rw [wA] at w1
  cases r1 <;> try exact w1.elim
  exact ⟨_, rfl, p φ1 _ _ M1 H1 _ f1 m1 w1 wk_str⟩
end
section
variable {X : Cx} {cv : Nat → Value} {W : WX} {O : Oracle} {ls : LS} {pos : Pos}
theorem ds_frG {Ct : Cx → Prop} {tg iter : Expr} {body : List Stmt} {k : ItK} {src : LA} {t : LT} {g : TG} (hp : PassesOwn (model X.prog X.w) X.A X.env X.xe) (hc : Ct X) (hi : PIG Ct X tg iter (tiOf X.K cv W (wSrc O k src))) (hg : PG X tg g) (tk : TgOk X.K g t)
    (hb : PSs X body (tsOf X.K cv W (wS O ls))) (hs : ∀ x, foldedSetIterable iter X.env x = pure x := by intro _; rfl) : PS X (.For tg iter body [] pos) (tsOf X.K cv W (wS O (.fr t k src ls))) :=
  PSt.imp (ps_forG hp hc hi hg hb hs) fun D sv H ⟨φ, σ, M, En, rs, m, w, p⟩ => by
    rw [wS] at w
    refine ⟨φ, σ, M, fun xs h M1 => wFor h t (wS O ls) En xs σ (h.start M1), _, rs, m, w, fun φ1 xs h M1 H1 J f1 m1 w1 wk => ?_, p.x rs⟩
    dsimp only at w1
    rw [wk.st] at w1
    refine ⟨fun i mm sv2 H2 => mm = xs.length - i ∧ ∃ φ2 σ2 M2, i ≤ xs.length ∧ Fr φ1 H1 φ2 H2 ∧ RS X.K H2 φ2 sv2 σ2 ∧ RM X.K H2 φ2 M2 ∧ wFor h t (wS O ls) En (xs.drop i) σ2 M2, ⟨xs.length, by omega, φ1, σ, M1, Nat.zero_le _, Fr.refl _ _, rs.fr f1, m1, w1⟩, ?_⟩
    rintro i mm sv2 H2 ⟨rfl, φ2, σ2, M2, hle, f2, rs2, m2, wt⟩
    have f12 := f1.trans f2
    by_cases hlt : i < xs.length
    · refine .inr ?_
      have hd : xs[i]? = some xs[i] := List.getElem?_eq_getElem hlt
      rw [List.drop_eq_getElem_cons hlt, wFor] at wt
      obtain ⟨hok, wt⟩ := wt
      obtain ⟨hgo, hy⟩ := wk.goes i _ φ2 M2 H2 f2 m2 hok hd
      refine ⟨hgo, fun sv3 H3 => ∃ φ3 σ3 M3, Fr φ1 H1 φ3 H3 ∧ RS X.K H3 φ3 sv3 σ3 ∧ RM X.K H3 φ3 M3 ∧ wFor h t (wS O ls) En (xs.drop (i + 1)) σ3 M3, fun sv3 H3 ⟨φ3, σ3, M3, q1, q2, q3, q4⟩ => ⟨xs.length - (i + 1), by omega, rfl, φ3, σ3, M3, hlt, q1, q2, q3, q4⟩, fun x H' hyl => ?_⟩
      obtain ⟨fy, my, ry⟩ := hy x H' hyl
      cases ha : asgT t xs[i] σ2 with
      | none => rw [ha] at wt; exact wt.elim
      | some σ' =>
        rw [ha] at wt
        refine tk.run φ2 M2 _ _ σ' H' x _ _ (rs2.fr fy) ry ha fun sv' rs' _ _ => ?_
        have f3 := f12.trans fy
        refine ⟨φ2, σ', M2, _, rs', my, wt, ⟨fun φ4 σ4 M4 sv4 H4 f4 rs4 m4 w4 => ⟨φ4, σ4, M4, (f2.trans fy).trans f4, rs4, m4, w4⟩, fun φ4 v d M4 H4 f4 m4 r4 w4 => ?_, fun φ4 c σ4 M4 sv4 H4 f4 rs4 m4 w4 => ?_⟩⟩
        · have w5 := w4.2
          rw [wk.fi] at w5
          exact p.rt φ4 v d M4 H4 (f3.trans f4) m4 r4 w5
        · have w5 := w4.2
          rw [wk.fi] at w5
          exact p.ex φ4 c σ4 M4 sv4 H4 (f3.trans f4) rs4 m4 w5
    · refine .inl ?_
      have e : i = xs.length := by omega
      subst e
      rw [List.drop_length, wFor] at wt
      obtain ⟨hok, wt⟩ := wt
      rw [wk.fi] at wt
      exact ⟨wk.stops φ2 M2 H2 f2 m2 hok, p.nx φ2 σ2 M2 sv2 H2 f12 rs2 m2 wt⟩
/-- a comprehension's reading, its part may raise -/
theorem comp_readx {K : PySem.W.Frag} {k : ItK} {src : LA} {t : LT} {le : LE} {g : TG} {vs : List Nat} (tk : TgOk K g t) (hsl : ∀ i ∈ t.slots, i ∈ vs) :
    ∀ sv H Q, tOf K cv W (wE O (.compx vs k src t le)) sv H Q → tLc (tiOf K cv W (wSrc O k src)) g tYes (tOf K cv (fun cls d _ H' => W cls d sv H') (wE O le)) vs sv H Q := by
  intro sv H Q ⟨φ, σ, M, Qp, Ep, rs, m, w, p, px⟩
  rw [wE] at w
  refine ⟨φ, σ, M, fun xs h M1 => wTurns h t (wipe σ vs) (fun _ M' Q' => Q' (.bool true) M') (fun σ' M' Q' => wE O le σ' M' Q' Ep) Qp xs [] (h.start M1), Ep, rs, m, w, fun φ1 xs h M1 H1 J f1 m1 w1 wk => ?_, px⟩
  dsimp only at w1
  rw [wk.st] at w1
  intro D hD
  have rs1 := rs.fr f1
  have f0D : Fr φ1 H1 φ1 (L2.upd H1 D (.lst [])) := (Fr.refl _ _).mutD hD
  refine ⟨fun i mm Hn => mm = xs.length - i ∧ ∃ φ2 M2 ys acc, i ≤ xs.length ∧ Fr φ1 H1 φ2 Hn ∧ RM K Hn φ2 M2 ∧ Hn D = some (.lst acc) ∧ D ∉ φ2 ∧ Reps K Hn φ2 acc ys ∧
    wTurns h t (wipe σ vs) (fun _ M' Q' => Q' (.bool true) M') (fun σ' M' Q' => wE O le σ' M' Q' Ep) Qp (xs.drop i) ys M2, ⟨xs.length, by omega, φ1, M1, [], [], Nat.zero_le _, f0D, ?_, upd_same, m1.out hD, .nil, w1⟩, ?_⟩
  · exact ⟨m1.len, m1.nd, fun n o a e1 e2 => (m1.at_ n o a e1 e2).at f0D fun u q => by rw [upd_ne (ne_of_none q hD)]; exact q⟩
  · rintro i mm Hn ⟨rfl, φ2, M2, ys, acc, hle, f2, m2, hDn, hnD, ra, wt⟩
    by_cases hlt : i < xs.length
    · refine .inr ?_
      have hd : xs[i]? = some xs[i] := List.getElem?_eq_getElem hlt
      rw [List.drop_eq_getElem_cons hlt, wTurns] at wt
      obtain ⟨hok, wt⟩ := wt
      obtain ⟨hgo, hy⟩ := wk.goes i _ φ2 M2 Hn f2 m2 hok hd
      refine ⟨hgo, fun H' => ∃ φ3 M3 ys' acc', Fr φ1 H1 φ3 H' ∧ RM K H' φ3 M3 ∧ H' D = some (.lst acc') ∧ D ∉ φ3 ∧ Reps K H' φ3 acc' ys' ∧
        wTurns h t (wipe σ vs) (fun _ M' Q' => Q' (.bool true) M') (fun σ' M' Q' => wE O le σ' M' Q' Ep) Qp (xs.drop (i + 1)) ys' M3, fun H' ⟨φ3, M3, ys', acc', q1, q2, q3, q4, q5, q6⟩ => ⟨xs.length - (i + 1), by omega, rfl, φ3, M3, ys', acc', hlt, q1, q2, q3, q4, q5, q6⟩, fun x H' hyl => ?_⟩
      obtain ⟨fy, my, ry⟩ := hy x H' hyl
      cases ha : asgT t xs[i] (wipe σ vs) with
      | none => rw [ha] at wt; exact wt.elim
      | some σ' =>
        rw [ha] at wt
        dsimp only at wt
        rw [brn_bool, if_pos rfl] at wt
        refine tk.run φ2 M2 _ _ σ' H' x _ _ (((rs1.fr f2).fr fy).wipe vs) ry ha fun sv' rs' hl' hj' => ⟨?_, ?_⟩
        · rw [← wipe_wipe sv vs]
          refine wipe_same hl' fun j hj => hj' j fun z => hj ?_
          exact hsl j z
        · have hDy := fy.keep D _ hDn hnD
          have hny := fy.off hDn hnD
          have fr3 := f2.trans fy
          refine tOf.step rs' my wt (fun φ' c M' H' f' m' q => px φ' c M' H' ((f1.trans fr3).trans f') m' q) fun φ4 y d M4 H4 f4 rs4 m4 r4 px4 w4 => ?_
          have hD4 := f4.keep D _ hDy hny
          have hn4 := f4.off hDy hny
          refine ⟨acc, hD4, by rw [ra.len]; exact szl w4.1, φ4, M4, ys ++ [d], acc ++ [y], (fr3.trans f4).mutD hD, m4.off hn4 hD4, upd_same, hn4, ?_, w4.2⟩
          exact ((ra.fr fy).fr f4 |>.app (.cons r4 .nil)).tups (List.prefix_refl _) (upd_tups hD4)
    · refine .inl ?_
      have e : i = xs.length := by omega
      subst e
      rw [List.drop_length, wTurns] at wt
      obtain ⟨hok, wt⟩ := wt
      rw [wk.fi] at wt
      refine ⟨wk.stops φ2 M2 Hn f2 m2 hok, ?_⟩
      have f0 : Fr φ H φ2 Hn := f1.trans f2
      have hD0 : H D = none := f1.trk D hD
      exact p.ok (φ2 ++ [D]) _ _ (M2 ++ [.lst ys]) Hn (f0.addD hD0) (m2.add hnD hDn ra) (.ref (by rw [← m2.len, List.getElem?_append_right (Nat.le_refl _), Nat.sub_self]; rfl)) wt
theorem dcompE {Ct : Cx → Prop} {x : Value} {elt tg iter : Expr} {scope : Scope} (own : List (Str × Nat)) {vs : List Nat} {k : ItK} {src : LA} {t : LT} {le : LE} {g : TG} (hc : Ct X) (hcb : ∀ s H ce fp, Ct (blkE X s H scope ce fp)) (tk : TakesV x X W) (hN : X.N.Nodup)
    (hi : PIG Ct X tg iter (tiOf X.K cv W (wSrc O k src))) (tgk : TgOk X.K g t)
    (hg : ∀ (s : Shared) (H : Hp) (C : Addr) (cl : List (Str × Addr)) (fp : List Addr), PG (blkE X s H scope (compEnvC scope cl C X.env) fp) tg g)
    (he : ∀ (W1 : WX) (s : Shared) (H : Hp) (C : Addr) (cl : List (Str × Addr)) (fp : List Addr), TakesV x (blkE X s H scope (compEnvC scope cl C X.env) fp) W1 → PE (blkE X s H scope (compEnvC scope cl C X.env) fp) elt (tOf X.K cv W1 (wE O le)))
    (hst : X.stack = X.env :: X.outer := by rfl) (hfr : X.env.frame = some X.env.locals := by rfl) (hv : vs = own.map (·.2) := by rfl) (hsl : ∀ i ∈ t.slots, i ∈ own.map (·.2) := by decide) (ok : blkC X.N X.env.scope scope own = true := by rfl) (hs : ∀ x, foldedSetIterable iter X.env x = pure x := by intro _; rfl) :
    PE X (.ListComp elt [⟨tg, iter, [], 0⟩] scope pos) (tOf X.K cv W (wE O (.compx vs k src t le))) := by
  subst hv
  exact PE.imp (pe_lcE (te := fun sv => tOf X.K cv (fun cls d _ H' => W cls d sv H') (wE O le)) hc hcb tk hst hfr hN hi (blkOk_by ok) hg (fun sv s H C cl fp q => he _ s H C cl fp q) hs) (comp_readx tgk hsl)
end
section
variable {X : Cx} {a : Addr} {oe : Obj} {cl : Value} {pn : List (Addr × Obj)}
theorem takes0V {x : Value} : TakesV x X W0 := fun _ _ z => by
  obtain ⟨⟨_, _, _, _, _, _, _, _, _, _, _, _, _, _, _, _, z⟩, _⟩ := z
  exact z.elim
theorem hot1_suite {d : Option Addr} (hz : L2N.Zn cl d oe) (hd : ∃ vs, oe.data = .fields vs) : L2H.Hot1 (X.suite a pn).A (a, oe) := by
  obtain ⟨vs, e⟩ := hd
  exact ⟨rfl, vs, e, hz.2.2 vs e⟩
theorem hotg_suite {a2 : Addr} {oe2 : Obj} {d : Option Addr} (hot : L2H.Hot1 X.A (a, oe)) (hp : (a, oe) ∈ X.pn) (hz : Zv (.ref a) cl d oe2) (hd : ∃ vs, oe2.data = .fields vs) (old : ∀ q ∈ X.pn, q ∈ pn ∧ q.1 ≠ a2) : HotG (X.suite a2 ((a2, oe2) :: pn)) := by
  obtain ⟨_, vs, e, c⟩ := hot
  obtain ⟨ws, e2⟩ := hd
  obtain ⟨o1, o2⟩ := old _ hp
  exact hotg2 (p := (a, oe)) (q := (a2, oe2)) ⟨rfl, o2, ⟨vs, e, c⟩, ws, e2, hz.2 ws e2⟩ (List.mem_cons_of_mem _ o1) List.mem_cons_self
end
theorem unH {k : Nat} {A : Around} (hr : L2H.RoomH k A) : A.units + 64 < cLine := by have := hr.un; omega
theorem huH {k : Nat} {A : Around} (hr : L2H.RoomH k A) : A.units + 1 < cLine := by have := hr.un; omega
end Sl
namespace Sl
local macro_rules | `(tactic| walk_at "slx") => `(tactic| first
  | ((with_reducible refine x_modI ?h ?_); (case h => first | assumption | decide | omega))
  | ((with_reducible refine x_divI ?h ?h2 ?_); (case h => first | assumption | decide | omega); (case h2 => first | assumption | exact Sm.of_nat 64 (by first | decide | omega) (by decide)))
  | ((with_reducible refine x_powI ?h ?h1 ?h2 ?_); (case h => decide); (case h1 => decide); (case h2 => decide))
  | ((with_reducible refine x_mulI ?h ?h1 ?_); (case h => first | assumption | exact Sm.of_nat 64 (by omega) (by decide)); (case h1 => first | assumption | exact Sm.of_nat 64 (by omega) (by decide)))
  | ((with_reducible refine x_lenL (ds := ?ds) ?h ?_); (case h => first | walk_at "at" | with_unfolding_all rfl))
  | ((with_reducible refine x_isi (k := ?k) ?h ?_); (case h => with_unfolding_all rfl))
  | ((with_reducible refine x_wkL (ds := ?ds) ?h ?_); (case h => first | walk_at "at" | with_unfolding_all rfl))
  | ((with_reducible refine x_wkR2 ?h ?h1 ?h2 ?h3 ?_); (case h => walk_at "om"); (case h1 => walk_at "om"); (case h2 => walk_at "om"); (case h3 => walk_at "om"))
  | ((with_reducible refine x_wkR ?h ?h1 ?_); (case h => walk_at "om"); (case h1 => walk_at "om"))
  | ((with_reducible refine x_wkV (ds := ?ds) ?h ?_); (case h => first | walk_at "at" | with_unfolding_all rfl))
  | ((with_reducible refine x_ixL (ds := ?ds) (d := ?d) ?h ?h2 ?_); (case h => with_unfolding_all rfl); (case h2 => with_unfolding_all rfl))
  | ((with_reducible refine x_small ?h ?_); (case h => first | exact Nat.le_of_ble_eq_true (by with_unfolding_all rfl) | walk_at "ln"))
  | ((with_reducible refine x_ixC (cs := ?cs) ?h ?h1 ?h2 ?_); (case h => walk_at "at"); (case h1 => walk_at "om"); (case h2 => walk_at "om"))
  | ((with_reducible refine x_lenD (kvs := ?kvs) ?h ?_); (case h => walk_at "at"))
  | ((with_reducible refine x_inD (kvs := ?kvs) ?h ?_); (case h => walk_at "at"))
  | ((with_reducible refine x_notinD (kvs := ?kvs) ?h ?_); (case h => walk_at "at"))
  | ((with_reducible refine x_rcvA (ds := ?ds) ?h ?_); (case h => walk_at "at"))
  | ((with_reducible refine x_rcvP (ds := ?ds) ?h ?_); (case h => walk_at "at"))
  | ((with_reducible refine x_rcvE (ds := ?ds) ?h ?_); (case h => walk_at "at"))
  | ((with_reducible refine x_rcvI (ds := ?ds) ?h ?_); (case h => walk_at "at"))
  | ((with_reducible refine x_rcvC (ds := ?ds) ?h ?_); (case h => walk_at "at"))
  | ((with_reducible refine x_catL (ds := ?ds) (es := ?es) ?h ?h1 ?h2 ?_); (case h => walk_at "at"); (case h1 => walk_at "at"); (case h2 => walk_at "ln"))
  | ((with_reducible refine x_catT ?h ?_); (case h => walk_at "ln"))
  | ((with_reducible refine x_part1 ?h ?_); (case h => walk_at "om"))
  | ((with_reducible refine x_slH (ds := ?ds) ?h ?h1 ?_); (case h => walk_at "at"); (case h1 => walk_at "om"))
  | ((with_reducible refine x_slL (ds := ?ds) ?h ?h1 ?_); (case h => walk_at "at"); (case h1 => walk_at "om"))
  | ((with_reducible refine x_slHT ?h ?_); (case h => walk_at "om"))
  | ((with_reducible refine x_slLT ?h ?_); (case h => walk_at "om"))
  | ((with_reducible refine x_slLH (ds := ?ds) ?h ?h1 ?h2 ?_); (case h => walk_at "at"); (case h1 => walk_at "om"); (case h2 => walk_at "om"))
  | ((with_reducible refine x_tupL (ds := ?ds) ?h ?_); (case h => walk_at "at"))
  | ((with_reducible refine x_listL (ds := ?ds) ?h ?_); (case h => walk_at "at"))
  | ((with_reducible refine x_unp (σ' := ?s) ?h ?_); (case h => with_unfolding_all rfl))
  | with_reducible first
  | (refine x_var (d := ?d) ?h ?_; (case h => with_unfolding_all rfl)) | (refine x_asgV (ds := ?ds) (σ' := ?s) ?h1 ?h2 ?_; (case h1 => with_unfolding_all rfl); (case h2 => with_unfolding_all rfl))
  | refine x_seq ?_
  | refine x_asg ?_
  | refine x_ife ?_
  | refine x_ret ?_
  | refine x_expr ?_
  | refine x_skip ?_
  | refine x_con ?_
  | refine x_cons ?_
  | refine x_nil ?_
  | refine x_bin ?_
  | refine x_cmp ?_
  | refine x_chain ?_
  | refine x_and ?_
  | refine x_or ?_
  | refine x_not ?_
  | refine x_notD ?_
  | refine x_tup ?_
  | refine x_lst ?_
  | refine x_dnew ?_
  | refine x_idx ?_
  | refine x_slice ?_
  | refine x_revl ?_
  | refine x_call ?_
  | refine x_bi ?_
  | refine x_meth ?_
  | refine x_brnT ?_
  | refine x_brnF ?_
  | refine x_addI ?_
  | refine x_subI ?_
  | refine x_lt ?_
  | refine x_le ?_
  | refine x_gt ?_
  | refine x_ge ?_
  | refine x_eqI ?_
  | refine x_neI ?_
  | refine x_eqS ?_
  | refine x_neS ?_
  | refine x_eqB ?_
  | refine x_neB ?_
  | refine x_lenT ?_
  | refine x_lenK ?_
  | refine x_for ?_
  | refine x_comp ?_
  | refine x_compx ?_
  | refine x_raise ?_
  | refine x_wkT ?_
  | refine x_wkS ?_
  | refine x_wkET ?_
  | refine x_setIx ?_
  | refine x_min ?_
  | refine x_max ?_
  | refine x_asgU ?_
  | refine x_part0 ?_
  | refine x_listT ?_
  | refine x_intB ?_)
local macro_rules | `(tactic| walk_at "at") => `(tactic| first | assumption | with_reducible exact lst_end _ _ | (refine Gr.app _ _ _ _ ?_; walk_at "at"))
local macro_rules | `(tactic| walk_at "gr") => `(tactic| first | assumption | with_reducible exact Gr.refl _ | (refine Gr.trans ?_ (Gr.app _ _); walk_at "gr"))
local macro_rules | `(tactic| walk_at "ls") => `(tactic| first | assumption | with_reducible exact Ls.refl _ | (refine Ls.trans ?_ (Ls.app _ _); walk_at "ls"))
local macro_rules | `(tactic| walk_at "ac") => `(tactic| repeat' with_reducible (first | exact all_nil | refine all_cons ?_ ?_))
local macro_rules | `(tactic| walk_at "pk") => `(tactic| ((with_reducible refine x_ixAny (ds := ?ds) ?h ?h1 ?h2 ?_); (case h => walk_at "at"); (case h1 => walk_at "om"); (case h2 => walk_at "om"); walk_at "ac"))
local macro_rules | `(tactic| walk_at "pi") => `(tactic| ((with_reducible refine x_ixAny (ds := ?ds) ?h ?h1 ?h2 ?_); (case h => walk_at "at"); (case h1 => walk_at "om"); (case h2 => walk_at "om")))
local macro_rules | `(tactic| walk_at "ln") => `(tactic| (simp only [List.length_append, List.length_take, List.length_drop, List.length_cons, List.length_nil, List.length_map, lim]; omega))
local macro_rules | `(tactic| walk_at "om") => `(tactic| first | assumption | omega | (simp only [List.length_cons, List.length_nil]; omega))
local macro_rules | `(tactic| walk_at "sl") => `(tactic| repeat walk_at "slx")
local macro_rules | `(tactic| walk_at "in") => `(tactic| dsimp only [Hold.start, Hold.fin, wipe, Fn.body, Fn.nargs, Fn.nslots, List.set_cons_zero, List.set_cons_succ, List.length_nil, List.length_cons, Nat.reduceAdd, List.map, List.append, List.cons_append, List.nil_append, List.replicate, Nat.reduceSub])

/-- is_between: 0 thing, 1 low, 2 high -/
def d_is_between : Fn := ⟨3, 3,
  (.ret (.and_ (.bi (.isi .int) (.cons (.var 0) .nil)) (.and_ (.not_ (.bi (.isi .bool) (.cons (.var 0) .nil))) (.chain .le .le (.var 1) (.var 0) (.var 2)))))⟩
/-- are_powers: 0 thing, 1 last, 2 pair -/
def d_are_powers : Fn := ⟨1, 3,
  (.seq (.ife (.or_ (.not_ (.bi (.isi .tuple) (.cons (.var 0) .nil))) (.cmp .eq (.bi .len (.cons (.var 0) .nil)) (.con (.int 0))))
  (.ret (.con (.bool false)))
  .skip)
  (.seq (.asg (.name 1) (.con (.int 1)))
  (.seq (.fr (.name 2) .tup (.cons (.var 0) .nil)
  (.seq (.ife (.or_ (.not_ (.bi (.isi .tuple) (.cons (.var 2) .nil))) (.or_ (.cmp .ne (.bi .len (.cons (.var 2) .nil)) (.con (.int 2))) (.not_ (.call 10 (.cons (.idx (.var 2) (.con (.int 0))) (.cons (.bin .add (.var 1) (.con (.int 1))) (.cons (.con (.int 1000000000000000000000000000000)) .nil)))))))
  (.ret (.con (.bool false)))
  .skip)
  (.seq (.ife (.not_ (.call 10 (.cons (.idx (.var 2) (.con (.int 1))) (.cons (.con (.int 1)) (.cons (.con (.int 100)) .nil)))))
  (.ret (.con (.bool false)))
  .skip)
  (.asg (.name 1) (.idx (.var 2) (.con (.int 0)))))))
  (.ret (.con (.bool true))))))⟩
/-- are_facts: 0 word, 1 facts -/
def d_are_facts : Fn := ⟨2, 2,
  (.seq (.ife (.cmp .eq (.var 0) (.con (.str [102, 105, 114, 115, 116])))
  (.ret (.cmp .eq (.bi .len (.cons (.var 1) .nil)) (.con (.int 0))))
  .skip)
  (.seq (.ife (.cmp .eq (.var 0) (.con (.str [112, 114, 105, 109, 101])))
  (.ret (.and_ (.cmp .eq (.bi .len (.cons (.var 1) .nil)) (.con (.int 2))) (.and_ (.call 10 (.cons (.idx (.var 1) (.con (.int 0))) (.cons (.con (.int 1)) (.cons (.con (.int 1000000000000000000000000000000)) .nil)))) (.call 14 (.cons (.idx (.var 1) (.con (.int 1))) .nil)))))
  .skip)
  (.seq (.ife (.cmp .eq (.var 0) (.con (.str [115, 112, 108, 105, 116])))
  (.ret (.and_ (.cmp .eq (.bi .len (.cons (.var 1) .nil)) (.con (.int 2))) (.and_ (.call 10 (.cons (.idx (.var 1) (.con (.int 0))) (.cons (.con (.int 2)) (.cons (.con (.int 1000000000000000000000000000000)) .nil)))) (.call 10 (.cons (.idx (.var 1) (.con (.int 1))) (.cons (.con (.int 2)) (.cons (.con (.int 1000000000000000000000000000000)) .nil)))))))
  .skip)
  (.seq (.ife (.or_ (.cmp .eq (.var 0) (.con (.str [112, 111, 119, 101, 114]))) (.cmp .eq (.var 0) (.con (.str [114, 111, 111, 116]))))
  (.ret (.and_ (.cmp .eq (.bi .len (.cons (.var 1) .nil)) (.con (.int 1))) (.call 10 (.cons (.idx (.var 1) (.con (.int 0))) (.cons (.con (.int 1)) (.cons (.con (.int 1000000000000000000000000000000)) .nil))))))
  .skip)
  (.ret (.con (.bool false)))))))⟩
/-- is_row: 0 thing -/
def d_is_row : Fn := ⟨1, 1,
  (.seq (.ife (.or_ (.not_ (.bi (.isi .tuple) (.cons (.var 0) .nil))) (.or_ (.cmp .ne (.bi .len (.cons (.var 0) .nil)) (.con (.int 3))) (.not_ (.call 10 (.cons (.idx (.var 0) (.con (.int 0))) (.cons (.con (.int 2)) (.cons (.con (.int 1000000000000000000000000000000)) .nil)))))))
  (.ret (.con (.bool false)))
  .skip)
  (.ret (.and_ (.bi (.isi .str) (.cons (.idx (.var 0) (.con (.int 1))) .nil)) (.and_ (.bi (.isi .tuple) (.cons (.idx (.var 0) (.con (.int 2))) .nil)) (.call 15 (.cons (.idx (.var 0) (.con (.int 1))) (.cons (.idx (.var 0) (.con (.int 2))) .nil)))))))⟩
/-- is_slip: 0 thing, 1 last, 2 row -/
def d_is_slip : Fn := ⟨1, 3,
  (.seq (.ife (.or_ (.not_ (.bi (.isi .tuple) (.cons (.var 0) .nil))) (.not_ (.chain .le .le (.con (.int 1)) (.bi .len (.cons (.var 0) .nil)) (.con (.int 200)))))
  (.ret (.con (.bool false)))
  .skip)
  (.seq (.asg (.name 1) (.con (.int 1)))
  (.seq (.fr (.name 2) .tup (.cons (.var 0) .nil)
  (.seq (.ife (.or_ (.not_ (.call 16 (.cons (.var 2) .nil))) (.cmp .le (.idx (.var 2) (.con (.int 0))) (.var 1)))
  (.ret (.con (.bool false)))
  .skip)
  (.asg (.name 1) (.idx (.var 2) (.con (.int 0))))))
  (.ret (.con (.bool true))))))⟩
/-- number_of: 0 word, 1 sign -/
def d_number_of : Fn := ⟨1, 2,
  (.seq (.fr (.name 1) .str (.cons (.var 0) .nil)
  (.ife (.cmp .notin (.var 1) (.con (.str [48, 49, 50, 51, 52, 53, 54, 55, 56, 57])))
  (.raise 7)
  .skip))
  (.seq (.ife (.or_ (.not_ (.chain .le .le (.con (.int 1)) (.bi .len (.cons (.var 0) .nil)) (.con (.int 31)))) (.cmp .eq (.idx (.var 0) (.con (.int 0))) (.con (.str [48]))))
  (.raise 7)
  .skip)
  (.ret (.bi .parse (.cons (.var 0) .nil)))))⟩
/-- power_of: 0 word, 1 parts -/
def d_power_of : Fn := ⟨1, 2,
  (.seq (.asg (.name 1) (.meth .split (.var 0) (.cons (.con (.str [94])) .nil)))
  (.seq (.ife (.cmp .ne (.bi .len (.cons (.var 1) .nil)) (.con (.int 2)))
  (.raise 7)
  .skip)
  (.ret (.tup (.cons (.call 37 (.cons (.idx (.var 1) (.con (.int 0))) .nil)) (.cons (.call 37 (.cons (.idx (.var 1) (.con (.int 1))) .nil)) .nil))))))⟩
/-- row_of: 0 line, 1 words, 2 powers, 3 word -/
def d_row_of : Fn := ⟨1, 4,
  (.seq (.asg (.name 1) (.meth .split (.var 0) (.cons (.con (.str [32])) .nil)))
  (.seq (.ife (.cmp .lt (.bi .len (.cons (.var 1) .nil)) (.con (.int 2)))
  (.raise 7)
  .skip)
  (.seq (.ife (.and_ (.cmp .eq (.idx (.var 1) (.con (.int 1))) (.con (.str [112, 114, 105, 109, 101]))) (.cmp .gt (.bi .len (.cons (.var 1) .nil)) (.con (.int 2))))
  (.seq (.asg (.name 2) (.bi .tuple (.cons (.compx [3] .lst (.cons (.slice (.var 1) (.cons (.con (.int 3)) .nil) .nil) .nil) (.name 3) (.call 38 (.cons (.var 3) .nil))) .nil)))
  (.ret (.tup (.cons (.call 37 (.cons (.idx (.var 1) (.con (.int 0))) .nil)) (.cons (.idx (.var 1) (.con (.int 1))) (.cons (.tup (.cons (.call 37 (.cons (.idx (.var 1) (.con (.int 2))) .nil)) (.cons (.var 2) .nil))) .nil))))))
  .skip)
  (.ret (.tup (.cons (.call 37 (.cons (.idx (.var 1) (.con (.int 0))) .nil)) (.cons (.idx (.var 1) (.con (.int 1))) (.cons (.bi .tuple (.cons (.compx [3] .lst (.cons (.slice (.var 1) (.cons (.con (.int 2)) .nil) .nil) .nil) (.name 3) (.call 37 (.cons (.var 3) .nil))) .nil)) .nil))))))))⟩
/-- read: 0 text, 1 slip, 2 line -/
def d_read : Fn := ⟨1, 3,
  (.seq (.asg (.name 1) (.bi .tuple (.cons (.compx [2] .lst (.cons (.meth .split (.var 0) (.cons (.con (.str [10])) .nil)) .nil) (.name 2) (.call 39 (.cons (.var 2) .nil))) .nil)))
  (.seq (.ife (.not_ (.call 22 (.cons (.var 1) .nil)))
  (.raise 7)
  .skip)
  (.ret (.var 1))))⟩
/-- _law_cell_at: 0 _law_script, 1 _law_k -/
def d__law_cell_at : Fn := ⟨2, 2,
  (.seq (.ife (.cmp .lt (.var 1) (.bi .len (.cons (.var 0) .nil)))
  (.ret (.idx (.var 0) (.var 1)))
  .skip)
  (.ret (.con (.int 0))))⟩
/-- _law_mixed: 0 _law_script, 1 _law_start, 2 _law_many, 3 _law_found, 4 _law_more, 5 _law_k -/
def d__law_mixed : Fn := ⟨3, 6,
  (.seq (.asg (.name 3) (.lst .nil))
  (.seq (.asg (.name 4) (.con (.int 7)))
  (.seq (.fr (.name 5) .range (.cons (.var 2) .nil)
  (.seq (.asg (.name 4) (.bin .mod (.bin .add (.bin .add (.bin .add (.bin .mul (.var 4) (.con (.int 48271))) (.call 101 (.cons (.var 0) (.cons (.bin .add (.var 1) (.var 5)) .nil)))) (.bin .mul (.con (.int 31)) (.var 5))) (.con (.int 1))) (.con (.int 2147483647))))
  (.expr (.meth .append (.var 3) (.cons (.var 4) .nil)))))
  (.ret (.var 3)))))⟩
/-- _law_power: 0 _law_base, 1 _law_exponent, 2 _law_by, 3 _law_bits, 4 _law_found, 5 _law_bit -/
def d__law_power : Fn := ⟨3, 6,
  (.seq (.asg (.name 3) (.lst .nil))
  (.seq (.whl (.cmp .gt (.var 1) (.con (.int 0)))
  (.seq (.expr (.meth .append (.var 3) (.cons (.bin .mod (.var 1) (.con (.int 2))) .nil)))
  (.asg (.name 1) (.bin .fdiv (.var 1) (.con (.int 2))))))
  (.seq (.asg (.name 4) (.bin .mod (.con (.int 1)) (.var 2)))
  (.seq (.fr (.name 5) .rev (.cons (.var 3) .nil)
  (.seq (.asg (.name 4) (.bin .mod (.bin .mul (.var 4) (.var 4)) (.var 2)))
  (.ife (.cmp .eq (.var 5) (.con (.int 1)))
  (.asg (.name 4) (.bin .mod (.bin .mul (.var 4) (.var 0)) (.var 2)))
  .skip)))
  (.ret (.var 4))))))⟩
/-- _law_round: 0 _law_number, 1 _law_base, 2 _law_powers, 3 _law_q, 4 _law_times -/
def d__law_round : Fn := ⟨3, 5,
  (.seq (.ife (.cmp .ne (.call 106 (.cons (.var 1) (.cons (.bin .sub (.var 0) (.con (.int 1))) (.cons (.var 0) .nil)))) (.con (.int 1)))
  (.ret (.con (.bool false)))
  .skip)
  (.seq (.fr (.tup [3, 4]) .tup (.cons (.var 2) .nil)
  (.ife (.cmp .eq (.call 106 (.cons (.var 1) (.cons (.bin .fdiv (.bin .sub (.var 0) (.con (.int 1))) (.var 3)) (.cons (.var 0) .nil)))) (.con (.int 1)))
  (.ret (.con (.bool false)))
  .skip))
  (.ret (.con (.bool true)))))⟩
/-- _law_is_prime: 0 _law_number, 1 _law_at -/
def d__law_is_prime : Fn := ⟨1, 2,
  (.seq (.asg (.name 1) (.con (.int 2)))
  (.seq (.whl (.cmp .le (.bin .mul (.var 1) (.var 1)) (.var 0))
  (.seq (.ife (.cmp .eq (.bin .mod (.var 0) (.var 1)) (.con (.int 0)))
  (.ret (.con (.bool false)))
  .skip)
  (.asg (.name 1) (.bin .add (.var 1) (.con (.int 1))))))
  (.ret (.cmp .gt (.var 0) (.con (.int 1))))))⟩
/-- _law_factors: 0 _law_number, 1 _law_found, 2 _law_at, 3 _law_times -/
def d__law_factors : Fn := ⟨1, 4,
  (.seq (.asg (.name 1) (.lst .nil))
  (.seq (.asg (.name 2) (.con (.int 2)))
  (.seq (.whl (.cmp .gt (.var 0) (.con (.int 1)))
  (.seq (.asg (.name 3) (.con (.int 0)))
  (.seq (.whl (.cmp .eq (.bin .mod (.var 0) (.var 2)) (.con (.int 0)))
  (.seq (.asg (.name 0) (.bin .fdiv (.var 0) (.var 2)))
  (.asg (.name 3) (.bin .add (.var 3) (.con (.int 1))))))
  (.seq (.ife (.cmp .gt (.var 3) (.con (.int 0)))
  (.expr (.meth .append (.var 1) (.cons (.tup (.cons (.var 2) (.cons (.var 3) .nil))) .nil)))
  .skip)
  (.asg (.name 2) (.bin .add (.var 2) (.con (.int 1))))))))
  (.ret (.bi .tuple (.cons (.var 1) .nil))))))⟩
/-- _law_prime_row: 0 _law_number, 1 _law_cell, 2 _law_powers, 3 _law_base -/
def d__law_prime_row : Fn := ⟨2, 4,
  (.seq (.ife (.cmp .eq (.var 0) (.con (.int 2)))
  (.ret (.tup (.cons (.con (.int 2)) (.cons (.con (.str [102, 105, 114, 115, 116])) (.cons (.tup .nil) .nil)))))
  .skip)
  (.seq (.asg (.name 2) (.call 109 (.cons (.bin .sub (.var 0) (.con (.int 1))) .nil)))
  (.seq (.asg (.name 3) (.bin .add (.con (.int 1)) (.bin .mod (.var 1) (.bin .sub (.var 0) (.con (.int 1))))))
  (.seq (.whl (.not_ (.call 107 (.cons (.var 0) (.cons (.var 3) (.cons (.var 2) .nil)))))
  (.asg (.name 3) (.bin .add (.bin .mod (.var 3) (.bin .sub (.var 0) (.con (.int 1)))) (.con (.int 1)))))
  (.ret (.tup (.cons (.var 0) (.cons (.con (.str [112, 114, 105, 109, 101])) (.cons (.tup (.cons (.var 3) (.cons (.var 2) .nil))) .nil)))))))))⟩
/-- _law_parted_row: 0 _law_number, 1 _law_cell, 2 _law_parts, 3 _law_at, 4 _law_roots, 5 _law_a, 6 _law_base -/
def d__law_parted_row : Fn := ⟨2, 7,
  (.seq (.asg (.name 2) (.comp [3] .range (.cons (.con (.int 2)) (.cons (.var 0) .nil)) (.name 3) (.cmp .eq (.bin .mod (.var 0) (.var 3)) (.con (.int 0))) (.var 3)))
  (.seq (.asg (.name 4) (.comp [3] .range (.cons (.con (.int 2)) (.cons (.bin .sub (.var 0) (.con (.int 1))) .nil)) (.name 3) (.cmp .eq (.bin .mod (.bin .mul (.var 3) (.var 3)) (.var 0)) (.con (.int 1))) (.var 3)))
  (.seq (.asg (.name 5) (.idx (.var 2) (.bin .mod (.bin .fdiv (.var 1) (.con (.int 4))) (.bi .len (.cons (.var 2) .nil)))))
  (.seq (.ife (.and_ (.cmp .eq (.bin .mod (.var 1) (.con (.int 4))) (.con (.int 0))) (.cmp .gt (.bi .len (.cons (.var 4) .nil)) (.con (.int 0))))
  (.ret (.tup (.cons (.var 0) (.cons (.con (.str [114, 111, 111, 116])) (.cons (.tup (.cons (.idx (.var 4) (.bin .mod (.bin .fdiv (.var 1) (.con (.int 4))) (.bi .len (.cons (.var 4) .nil)))) .nil)) .nil)))))
  .skip)
  (.seq (.ife (.cmp .gt (.bin .mod (.var 1) (.con (.int 4))) (.con (.int 1)))
  (.ret (.tup (.cons (.var 0) (.cons (.con (.str [115, 112, 108, 105, 116])) (.cons (.tup (.cons (.var 5) (.cons (.bin .fdiv (.var 0) (.var 5)) .nil))) .nil)))))
  .skip)
  (.seq (.asg (.name 6) (.bin .add (.con (.int 1)) (.bin .mod (.bin .fdiv (.var 1) (.con (.int 4))) (.bin .sub (.var 0) (.con (.int 1))))))
  (.seq (.whl (.cmp .eq (.call 106 (.cons (.var 6) (.cons (.bin .sub (.var 0) (.con (.int 1))) (.cons (.var 0) .nil)))) (.con (.int 1)))
  (.asg (.name 6) (.bin .add (.bin .mod (.var 6) (.bin .sub (.var 0) (.con (.int 1)))) (.con (.int 1)))))
  (.ret (.tup (.cons (.var 0) (.cons (.con (.str [112, 111, 119, 101, 114])) (.cons (.tup (.cons (.var 6) .nil)) .nil))))))))))))⟩
/-- _law_big_row: 0 _law_cell, 1 _law_some, 2 _law_number, 3 _law_base, 4 _law_powers -/
def d__law_big_row : Fn := ⟨1, 5,
  (.seq (.asg (.name 1) (.lst (.cons (.tup (.cons (.con (.int 65537)) (.cons (.con (.int 3)) (.cons (.tup (.cons (.tup (.cons (.con (.int 2)) (.cons (.con (.int 16)) .nil))) .nil)) .nil)))) (.cons (.tup (.cons (.con (.int 998244353)) (.cons (.con (.int 3)) (.cons (.tup (.cons (.tup (.cons (.con (.int 2)) (.cons (.con (.int 23)) .nil))) (.cons (.tup (.cons (.con (.int 7)) (.cons (.con (.int 1)) .nil))) (.cons (.tup (.cons (.con (.int 17)) (.cons (.con (.int 1)) .nil))) .nil)))) .nil)))) .nil))))
  (.seq (.asg (.name 1) (.bin .add (.var 1) (.lst (.cons (.tup (.cons (.con (.int 2013265921)) (.cons (.con (.int 31)) (.cons (.tup (.cons (.tup (.cons (.con (.int 2)) (.cons (.con (.int 27)) .nil))) (.cons (.tup (.cons (.con (.int 3)) (.cons (.con (.int 1)) .nil))) (.cons (.tup (.cons (.con (.int 5)) (.cons (.con (.int 1)) .nil))) .nil)))) .nil)))) (.cons (.tup (.cons (.con (.int 4179340454199820289)) (.cons (.con (.int 3)) (.cons (.tup (.cons (.tup (.cons (.con (.int 2)) (.cons (.con (.int 57)) .nil))) (.cons (.tup (.cons (.con (.int 29)) (.cons (.con (.int 1)) .nil))) .nil))) .nil)))) .nil)))))
  (.seq (.asg (.tup [2, 3, 4]) (.idx (.var 1) (.bin .mod (.var 0) (.con (.int 4)))))
  (.seq (.asg (.name 3) (.call 106 (.cons (.var 3) (.cons (.idx (.lst (.cons (.con (.int 1)) (.cons (.con (.int 11)) (.cons (.con (.int 13)) (.cons (.con (.int 19)) (.cons (.con (.int 23)) .nil)))))) (.bin .mod (.bin .fdiv (.var 0) (.con (.int 4))) (.con (.int 5)))) (.cons (.var 2) .nil)))))
  (.ret (.tup (.cons (.var 2) (.cons (.con (.str [112, 114, 105, 109, 101])) (.cons (.tup (.cons (.var 3) (.cons (.var 4) .nil))) .nil)))))))))⟩
/-- _law_great_row: 0 _law_cell, 1 _law_more, 2 _law_a, 3 _law_b -/
def d__law_great_row : Fn := ⟨2, 4,
  (.seq (.asg (.name 2) (.bin .add (.con (.int 2)) (.bin .mod (.bin .add (.bin .mul (.var 0) (.con (.int 2147483647))) (.var 1)) (.bin .pow (.con (.int 10)) (.con (.int 15))))))
  (.seq (.asg (.name 3) (.bin .add (.con (.int 2)) (.bin .mod (.bin .add (.bin .mul (.var 1) (.con (.int 2147483647))) (.var 0)) (.bin .sub (.bin .pow (.con (.int 10)) (.con (.int 15))) (.con (.int 9))))))
  (.seq (.ife (.cmp .eq (.bin .mod (.var 0) (.con (.int 3))) (.con (.int 0)))
  (.ret (.tup (.cons (.bin .mul (.var 2) (.var 3)) (.cons (.con (.str [115, 112, 108, 105, 116])) (.cons (.tup (.cons (.var 2) (.cons (.var 3) .nil))) .nil)))))
  .skip)
  (.seq (.ife (.cmp .eq (.bin .mod (.var 0) (.con (.int 3))) (.con (.int 1)))
  (.ret (.tup (.cons (.bin .mul (.var 2) (.var 3)) (.cons (.con (.str [112, 111, 119, 101, 114])) (.cons (.tup (.cons (.var 2) .nil)) .nil)))))
  .skip)
  (.ret (.tup (.cons (.bin .sub (.bin .mul (.bin .add (.var 3) (.con (.int 1))) (.bin .add (.var 3) (.con (.int 1)))) (.con (.int 1))) (.cons (.con (.str [114, 111, 111, 116])) (.cons (.tup (.cons (.bin .add (.var 3) (.con (.int 1))) .nil)) .nil)))))))))⟩
/-- _law_needs: 0 _law_row, 1 _law_q, 2 _law_times -/
def d__law_needs : Fn := ⟨1, 3,
  (.seq (.ife (.cmp .eq (.idx (.var 0) (.con (.int 1))) (.con (.str [112, 114, 105, 109, 101])))
  (.ret (.comp [1, 2] .tup (.cons (.idx (.idx (.var 0) (.con (.int 2))) (.con (.int 1))) .nil) (.tup [1, 2]) (.con (.bool true)) (.var 1)))
  .skip)
  (.ret (.lst .nil)))⟩
/-- _law_closed: 0 _law_rows, 1 _law_waiting, 2 _law_cells, 3 _law_here, 4 _law_cell, 5 _law_number -/
def d__law_closed : Fn := ⟨3, 6,
  (.seq (.whl (.cmp .gt (.bi .len (.cons (.var 1) .nil)) (.con (.int 0)))
  (.seq (.asg (.name 3) (.meth .pop (.var 1) .nil))
  (.ife (.cmp .notin (.var 3) (.var 0))
  (.seq (.asg (.name 4) (.idx (.var 2) (.bin .mod (.bin .add (.var 3) (.bi .len (.cons (.var 0) .nil))) (.bi .len (.cons (.var 2) .nil)))))
  (.seq (.ife (.call 108 (.cons (.var 3) .nil))
  (.setIx (.var 0) (.var 3) (.call 110 (.cons (.var 3) (.cons (.var 4) .nil))))
  (.setIx (.var 0) (.var 3) (.call 111 (.cons (.var 3) (.cons (.var 4) .nil)))))
  (.expr (.meth .extend (.var 1) (.cons (.call 114 (.cons (.idx (.var 0) (.var 3)) .nil)) .nil)))))
  .skip)))
  (.ret (.comp [5] .lst (.cons (.bi .sorted (.cons (.var 0) .nil)) .nil) (.name 5) (.con (.bool true)) (.idx (.var 0) (.var 5)))))⟩
/-- _law_rows_by: 0 _law_cells, 1 _law_rows, 2 _law_waiting, 3 _law_k, 4 _law_row -/
def d__law_rows_by : Fn := ⟨1, 5,
  (.seq (.asg (.name 1) .dnew)
  (.seq (.asg (.name 2) (.comp [3] .range (.cons (.bin .add (.con (.int 1)) (.bin .mod (.idx (.var 0) (.con (.int 0))) (.con (.int 5)))) .nil) (.name 3) (.con (.bool true)) (.bin .add (.con (.int 2)) (.bin .mod (.bin .fdiv (.idx (.var 0) (.var 3)) (.con (.int 6))) (.idx (.lst (.cons (.con (.int 40)) (.cons (.con (.int 398)) .nil))) (.bin .mod (.bin .fdiv (.idx (.var 0) (.var 3)) (.con (.int 2400))) (.con (.int 2))))))))
  (.seq (.ife (.cmp .eq (.bin .mod (.idx (.var 0) (.con (.int 6))) (.con (.int 4))) (.con (.int 1)))
  (.seq (.asg (.name 4) (.call 112 (.cons (.bin .fdiv (.idx (.var 0) (.con (.int 6))) (.con (.int 4))) .nil)))
  (.seq (.setIx (.var 1) (.idx (.var 4) (.con (.int 0))) (.var 4))
  (.expr (.meth .extend (.var 2) (.cons (.call 114 (.cons (.var 4) .nil)) .nil)))))
  .skip)
  (.seq (.ife (.cmp .eq (.bin .mod (.idx (.var 0) (.con (.int 7))) (.con (.int 4))) (.con (.int 1)))
  (.seq (.asg (.name 4) (.call 113 (.cons (.idx (.var 0) (.con (.int 7))) (.cons (.idx (.var 0) (.con (.int 5))) .nil))))
  (.setIx (.var 1) (.idx (.var 4) (.con (.int 0))) (.var 4)))
  .skip)
  (.ret (.call 115 (.cons (.var 1) (.cons (.var 2) (.cons (.var 0) .nil)))))))))⟩
/-- _law_rising: 0 _law_powers, 1 _law_last, 2 _law_pair -/
def d__law_rising : Fn := ⟨1, 3,
  (.seq (.asg (.name 1) (.con (.int 1)))
  (.seq (.fr (.name 2) .tup (.cons (.var 0) .nil)
  (.seq (.ife (.or_ (.not_ (.bi (.isi .tuple) (.cons (.var 2) .nil))) (.or_ (.cmp .ne (.bi .len (.cons (.var 2) .nil)) (.con (.int 2))) (.not_ (.call 124 (.cons (.idx (.var 2) (.con (.int 0))) (.cons (.bin .add (.var 1) (.con (.int 1))) (.cons (.bin .pow (.con (.int 10)) (.con (.int 30))) .nil)))))))
  (.ret (.con (.bool false)))
  .skip)
  (.seq (.ife (.not_ (.call 124 (.cons (.idx (.var 2) (.con (.int 1))) (.cons (.con (.int 1)) (.cons (.con (.int 100)) .nil)))))
  (.ret (.con (.bool false)))
  .skip)
  (.asg (.name 1) (.idx (.var 2) (.con (.int 0)))))))
  (.ret (.con (.bool true)))))⟩
/-- _law_within: 0 _law_thing, 1 _law_low, 2 _law_high -/
def d__law_within : Fn := ⟨3, 3,
  (.ret (.and_ (.bi (.isi .int) (.cons (.var 0) .nil)) (.and_ (.not_ (.bi (.isi .bool) (.cons (.var 0) .nil))) (.chain .le .le (.var 1) (.var 0) (.var 2)))))⟩
/-- _law_row_right: 0 _law_row, 1 _law_facts -/
def d__law_row_right : Fn := ⟨1, 2,
  (.seq (.ife (.or_ (.not_ (.bi (.isi .tuple) (.cons (.var 0) .nil))) (.or_ (.cmp .ne (.bi .len (.cons (.var 0) .nil)) (.con (.int 3))) (.not_ (.call 124 (.cons (.idx (.var 0) (.con (.int 0))) (.cons (.con (.int 2)) (.cons (.bin .pow (.con (.int 10)) (.con (.int 30))) .nil)))))))
  (.ret (.con (.bool false)))
  .skip)
  (.seq (.ife (.or_ (.not_ (.bi (.isi .str) (.cons (.idx (.var 0) (.con (.int 1))) .nil))) (.not_ (.bi (.isi .tuple) (.cons (.idx (.var 0) (.con (.int 2))) .nil))))
  (.ret (.con (.bool false)))
  .skip)
  (.seq (.asg (.name 1) (.idx (.var 0) (.con (.int 2))))
  (.seq (.ife (.cmp .eq (.idx (.var 0) (.con (.int 1))) (.con (.str [102, 105, 114, 115, 116])))
  (.ret (.cmp .eq (.var 1) (.tup .nil)))
  .skip)
  (.seq (.ife (.cmp .eq (.idx (.var 0) (.con (.int 1))) (.con (.str [115, 112, 108, 105, 116])))
  (.ret (.and_ (.cmp .eq (.bi .len (.cons (.var 1) .nil)) (.con (.int 2))) (.and_ (.call 124 (.cons (.idx (.var 1) (.con (.int 0))) (.cons (.con (.int 2)) (.cons (.bin .pow (.con (.int 10)) (.con (.int 30))) .nil)))) (.call 124 (.cons (.idx (.var 1) (.con (.int 1))) (.cons (.con (.int 2)) (.cons (.bin .pow (.con (.int 10)) (.con (.int 30))) .nil)))))))
  .skip)
  (.seq (.ife (.or_ (.cmp .eq (.idx (.var 0) (.con (.int 1))) (.con (.str [112, 111, 119, 101, 114]))) (.cmp .eq (.idx (.var 0) (.con (.int 1))) (.con (.str [114, 111, 111, 116]))))
  (.ret (.and_ (.cmp .eq (.bi .len (.cons (.var 1) .nil)) (.con (.int 1))) (.call 124 (.cons (.idx (.var 1) (.con (.int 0))) (.cons (.con (.int 1)) (.cons (.bin .pow (.con (.int 10)) (.con (.int 30))) .nil))))))
  .skip)
  (.seq (.ife (.or_ (.cmp .ne (.idx (.var 0) (.con (.int 1))) (.con (.str [112, 114, 105, 109, 101]))) (.or_ (.cmp .ne (.bi .len (.cons (.var 1) .nil)) (.con (.int 2))) (.not_ (.call 124 (.cons (.idx (.var 1) (.con (.int 0))) (.cons (.con (.int 1)) (.cons (.bin .pow (.con (.int 10)) (.con (.int 30))) .nil)))))))
  (.ret (.con (.bool false)))
  .skip)
  (.ret (.and_ (.bi (.isi .tuple) (.cons (.idx (.var 1) (.con (.int 1))) .nil)) (.and_ (.cmp .gt (.bi .len (.cons (.idx (.var 1) (.con (.int 1))) .nil)) (.con (.int 0))) (.call 123 (.cons (.idx (.var 1) (.con (.int 1))) .nil))))))))))))⟩
/-- _law_line: 0 _law_row, 1 _law_text, 2 _law_q, 3 _law_times, 4 _law_number -/
def d__law_line : Fn := ⟨1, 5,
  (.seq (.asg (.name 1) (.bin .add (.bin .add (.bi .str (.cons (.idx (.var 0) (.con (.int 0))) .nil)) (.con (.str [32]))) (.idx (.var 0) (.con (.int 1)))))
  (.seq (.ife (.cmp .eq (.idx (.var 0) (.con (.int 1))) (.con (.str [112, 114, 105, 109, 101])))
  (.seq (.asg (.name 1) (.bin .add (.bin .add (.var 1) (.con (.str [32]))) (.bi .str (.cons (.idx (.idx (.var 0) (.con (.int 2))) (.con (.int 0))) .nil))))
  (.seq (.fr (.tup [2, 3]) .tup (.cons (.idx (.idx (.var 0) (.con (.int 2))) (.con (.int 1))) .nil)
  (.asg (.name 1) (.bin .add (.bin .add (.bin .add (.bin .add (.var 1) (.con (.str [32]))) (.bi .str (.cons (.var 2) .nil))) (.con (.str [94]))) (.bi .str (.cons (.var 3) .nil)))))
  (.ret (.var 1))))
  .skip)
  (.seq (.fr (.name 4) .tup (.cons (.idx (.var 0) (.con (.int 2))) .nil)
  (.asg (.name 1) (.bin .add (.bin .add (.var 1) (.con (.str [32]))) (.bi .str (.cons (.var 4) .nil)))))
  (.ret (.var 1)))))⟩
/-- _law_slip_right: 0 _law_slip, 1 _law_row, 2 _law_k -/
def d__law_slip_right : Fn := ⟨1, 3,
  (.seq (.ife (.or_ (.not_ (.bi (.isi .tuple) (.cons (.var 0) .nil))) (.or_ (.not_ (.chain .le .le (.con (.int 1)) (.bi .len (.cons (.var 0) .nil)) (.con (.int 200)))) (.not_ (.bi .all (.cons (.comp [1] .tup (.cons (.var 0) .nil) (.name 1) (.con (.bool true)) (.call 125 (.cons (.var 1) .nil))) .nil)))))
  (.ret (.con (.bool false)))
  .skip)
  (.seq (.fr (.name 2) .range (.cons (.con (.int 1)) (.cons (.bi .len (.cons (.var 0) .nil)) .nil))
  (.ife (.cmp .ge (.idx (.idx (.var 0) (.bin .sub (.var 2) (.con (.int 1)))) (.con (.int 0))) (.idx (.idx (.var 0) (.var 2)) (.con (.int 0))))
  (.ret (.con (.bool false)))
  .skip))
  (.ret (.con (.bool true)))))⟩
/-- _law_changed: 0 _law_text, 1 _law_cell, 2 _law_more, 3 _law_at, 4 _law_signs, 5 _law_sign, 6 _law_lines, 7 _law_place, 8 _law_powers, 9 _law_k, 10 _law_words, 11 _law_put -/
def d__law_changed : Fn := ⟨3, 12,
  (.seq (.asg (.name 3) (.bin .mod (.var 2) (.bin .add (.con (.int 1)) (.bi .len (.cons (.var 0) .nil)))))
  (.seq (.asg (.name 4) (.con (.str [48, 49, 50, 51, 52, 53, 54, 55, 56, 57, 94, 32, 10, 102, 105, 114, 115, 116, 112, 111, 119, 101, 108, 109, 100, 111, 43, 45, 95, 46, 44, 59, 58, 65, 66, 90, 33, 35, 126])))
  (.seq (.asg (.name 5) (.idx (.var 4) (.bin .mod (.bin .fdiv (.var 1) (.con (.int 10))) (.bi .len (.cons (.var 4) .nil)))))
  (.seq (.ife (.cmp .eq (.bin .mod (.var 1) (.con (.int 10))) (.con (.int 0)))
  (.ret (.bin .add (.slice (.var 0) .nil (.cons (.var 3) .nil)) (.slice (.var 0) (.cons (.bin .add (.var 3) (.con (.int 1))) .nil) .nil)))
  .skip)
  (.seq (.ife (.cmp .eq (.bin .mod (.var 1) (.con (.int 10))) (.con (.int 1)))
  (.ret (.bin .add (.bin .add (.slice (.var 0) .nil (.cons (.var 3) .nil)) (.var 5)) (.slice (.var 0) (.cons (.var 3) .nil) .nil)))
  .skip)
  (.seq (.ife (.cmp .eq (.bin .mod (.var 1) (.con (.int 10))) (.con (.int 2)))
  (.ret (.bin .add (.bin .add (.slice (.var 0) .nil (.cons (.var 3) .nil)) (.var 5)) (.slice (.var 0) (.cons (.bin .add (.var 3) (.con (.int 1))) .nil) .nil)))
  .skip)
  (.seq (.asg (.name 6) (.meth .split (.var 0) (.cons (.con (.str [10])) .nil)))
  (.seq (.asg (.name 7) (.bin .mod (.var 2) (.bi .len (.cons (.var 6) .nil))))
  (.seq (.ife (.cmp .eq (.bin .mod (.var 1) (.con (.int 10))) (.con (.int 3)))
  (.ret (.meth .join (.con (.str [10])) (.cons (.bin .add (.bin .add (.slice (.var 6) .nil (.cons (.var 7) .nil)) (.lst (.cons (.idx (.var 6) (.bin .sub (.var 7) (.con (.int 1)))) .nil))) (.slice (.var 6) (.cons (.var 7) .nil) .nil)) .nil)))
  .skip)
  (.seq (.ife (.cmp .gt (.bin .mod (.var 1) (.con (.int 10))) (.con (.int 4)))
  (.seq (.asg (.name 8) (.comp [9] .range (.cons (.bi .len (.cons (.var 6) .nil)) .nil) (.name 9) (.cmp .isin (.con (.str [94])) (.idx (.var 6) (.var 9))) (.var 9)))
  (.seq (.ife (.and_ (.cmp .gt (.bi .len (.cons (.var 8) .nil)) (.con (.int 0))) (.cmp .gt (.bin .mod (.bin .fdiv (.var 1) (.con (.int 25600))) (.con (.int 3))) (.con (.int 0))))
  (.asg (.name 7) (.idx (.var 8) (.bin .mod (.var 2) (.bi .len (.cons (.var 8) .nil)))))
  .skip)
  (.seq (.asg (.name 10) (.meth .split (.idx (.var 6) (.var 7)) (.cons (.con (.str [32])) .nil)))
  (.seq (.asg (.name 11) (.idx (.lst (.cons (.con (.str [])) (.cons (.con (.str [48])) (.cons (.con (.str [49, 94, 48])) (.cons (.con (.str [50])) (.cons (.bin .mul (.con (.str [49])) (.con (.int 31))) (.cons (.bin .mul (.con (.str [49])) (.con (.int 32))) (.cons (.con (.str [50, 94, 50])) (.cons (.bin .mul (.con (.str [49])) (.con (.int 5000))) .nil))))))))) (.bin .mod (.bin .fdiv (.var 1) (.con (.int 10))) (.con (.int 8)))))
  (.seq (.asg (.name 3) (.bin .mod (.bin .fdiv (.var 1) (.con (.int 80))) (.bi .len (.cons (.var 10) .nil))))
  (.seq (.ife (.cmp .eq (.bin .mod (.bin .fdiv (.var 1) (.con (.int 1600))) (.con (.int 4))) (.con (.int 0)))
  (.expr (.meth .insert (.var 10) (.cons (.var 3) (.cons (.var 11) .nil))))
  (.seq (.asg (.name 3) (.idx (.lst (.cons (.var 3) (.cons (.bin .sub (.bi .len (.cons (.var 10) .nil)) (.con (.int 1))) .nil))) (.bin .mod (.bin .fdiv (.var 1) (.con (.int 800))) (.con (.int 2)))))
  (.setIx (.var 10) (.var 3) (.idx (.lst (.cons (.bin .add (.con (.str [48])) (.idx (.var 10) (.var 3))) (.cons (.bin .add (.idx (.var 10) (.var 3)) (.con (.str [94, 49]))) (.cons (.bin .add (.con (.str [43])) (.idx (.var 10) (.var 3))) (.cons (.bin .add (.idx (.var 10) (.var 3)) (.con (.str [32]))) .nil))))) (.bin .mod (.bin .fdiv (.var 1) (.con (.int 6400))) (.con (.int 4)))))))
  (.ret (.meth .join (.con (.str [10])) (.cons (.bin .add (.bin .add (.slice (.var 6) .nil (.cons (.var 7) .nil)) (.lst (.cons (.meth .join (.con (.str [32])) (.cons (.var 10) .nil)) .nil))) (.slice (.var 6) (.cons (.bin .add (.var 7) (.con (.int 1))) .nil) .nil)) .nil)))))))))
  .skip)
  (.ret (.slice (.var 0) .nil (.cons (.var 3) .nil)))))))))))))⟩
/-- _law_refused: 0 _law_text, 1 e, 2 _law_other -/
def d__law_refused : Fn := ⟨1, 3,
  (.seq (.tryx (.expr (.call 40 (.cons (.var 0) .nil)))
  0 (some 1)
  (.seq (.fr (.name 2) .lst (.cons (.lst (.cons (.call 999 (.cons (.var 1) (.cons (.con (.int 6)) .nil))) (.cons (.call 999 (.cons (.var 1) (.cons (.con (.int 2)) .nil))) (.cons (.call 999 (.cons (.var 1) (.cons (.con (.int 4)) .nil))) (.cons (.call 999 (.cons (.var 1) (.cons (.con (.int 3)) .nil))) .nil))))) .nil)
  (.ife (.var 2)
  (.ret (.con (.bool false)))
  .skip))
  (.ret (.and_ (.call 999 (.cons (.var 1) (.cons (.con (.int 7)) .nil))) (.and_ (.call 999 (.cons (.var 1) (.cons (.con (.int 1)) .nil))) (.not_ (.call 999 (.cons (.var 1) (.cons (.con (.int 5)) .nil)))))))))
  (.ret (.con (.bool false))))⟩
/-- law: 0 _law_script, 1 _law_cells, 2 _law_text, 3 _law_row, 4 _law_k, 5 _law_found -/
def d_law : Fn := ⟨1, 6,
  (.seq (.asg (.name 1) (.call 105 (.cons (.var 0) (.cons (.con (.int 0)) (.cons (.con (.int 12)) .nil)))))
  (.seq (.asg (.name 2) (.meth .join (.con (.str [10])) (.cons (.comp [3] .lst (.cons (.call 116 (.cons (.var 1) .nil)) .nil) (.name 3) (.con (.bool true)) (.call 136 (.cons (.var 3) .nil))) .nil)))
  (.seq (.fr (.name 4) .range (.cons (.bin .add (.con (.int 1)) (.bin .mod (.idx (.var 1) (.con (.int 8))) (.con (.int 2)))) .nil)
  (.asg (.name 2) (.call 132 (.cons (.var 2) (.cons (.idx (.var 1) (.bin .add (.con (.int 9)) (.var 4))) (.cons (.idx (.var 1) (.bin .add (.con (.int 10)) (.var 4))) .nil))))))
  (.seq (.tryx (.asg (.name 5) (.call 40 (.cons (.var 2) .nil)))
  7 none
  (.ret (.call 139 (.cons (.var 2) .nil))))
  (.ret (.and_ (.call 138 (.cons (.var 5) .nil)) (.cmp .eq (.meth .join (.con (.str [10])) (.cons (.comp [3] .tup (.cons (.var 5) .nil) (.name 3) (.con (.bool true)) (.call 136 (.cons (.var 3) .nil))) .nil)) (.var 2))))))))⟩
def PP : Nat → Option Fn
  | 10 => some d_is_between
  | 14 => some d_are_powers
  | 15 => some d_are_facts
  | 16 => some d_is_row
  | 22 => some d_is_slip
  | 37 => some d_number_of
  | 38 => some d_power_of
  | 39 => some d_row_of
  | 40 => some d_read
  | 101 => some d__law_cell_at
  | 105 => some d__law_mixed
  | 106 => some d__law_power
  | 107 => some d__law_round
  | 108 => some d__law_is_prime
  | 109 => some d__law_factors
  | 110 => some d__law_prime_row
  | 111 => some d__law_parted_row
  | 112 => some d__law_big_row
  | 113 => some d__law_great_row
  | 114 => some d__law_needs
  | 115 => some d__law_closed
  | 116 => some d__law_rows_by
  | 123 => some d__law_rising
  | 124 => some d__law_within
  | 125 => some d__law_row_right
  | 136 => some d__law_line
  | 138 => some d__law_slip_right
  | 132 => some d__law_changed
  | 139 => some d__law_refused
  | 100 => some d_law
  | _ => none

/-- the script's cell -/
def cell (ns : List Int) (k : Nat) : Int := ns.getD k 0
theorem cell_at_ok {n : Nat} {ns : List Int} {k : Nat} {M : MS} {Q : VQ} {E : XQ} (q : Q (.int (cell ns k)) M) : wF PP (n + 1) 101 [.kl (ns.map D.int), .int k] M Q E := by
  refine wF_call rfl rfl ?_
  dsimp only [d__law_cell_at]
  walk_at "in"
  walk_at "sl"
  refine x_brn (fun h => ?_) fun h => ?_
  · walk_at "sl"
    rw [List.length_map] at h
    have hk : k < ns.length := by omega
    refine x_ixK (d := .int (cell ns k)) ?_ q
    rw [atI_nat, List.getElem?_map, List.getElem?_eq_getElem hk]
    unfold cell
    rw [List.getD_eq_getElem?_getD, List.getElem?_eq_getElem hk]
    rfl
  · walk_at "sl"
    rw [List.length_map] at h
    have e : cell ns k = 0 := by
      unfold cell
      rw [List.getD_eq_getElem?_getD, List.getElem?_eq_none (by omega)]
      rfl
    rw [← e]
    exact q

theorem mixed_ok {n : Nat} {ns : List Int} {st many : Nat} {M : MS} {Q : VQ} {E : XQ} (hm : many ≤ 1000) (q : ∀ cs : List Int, cs.length = many → (∀ c ∈ cs, 0 ≤ c ∧ c < 2147483647) → Q (.ref M.length) (M ++ [.lst (cs.map .int)])) :
    wF PP (n + 2) 105 [.kl (ns.map D.int), .int st, .int many] M Q E := by
  refine wF_call rfl rfl ?_
  dsimp only [d__law_mixed]
  walk_at "in"
  walk_at "sl"
  refine wFor_rng (fun i σ M' => ∃ (cs : List Int) (x : Int) (y : Option D), σ = [some (.kl (ns.map D.int)), some (.int st), some (.int many), some (.ref M.length), some (.int x), y] ∧ M' = M ++ [.lst (cs.map .int)] ∧
      0 ≤ x ∧ x < 2147483647 ∧ cs.length = i ∧ ∀ c ∈ cs, 0 ≤ c ∧ c < 2147483647) ?_ ?_ ⟨[], 7, none, rfl, rfl, by decide, by decide, rfl, fun _ h => nomatch h⟩
  · rintro σ M' ⟨cs, x, y, rfl, rfl, x0, x1, hl, hc⟩
    walk_at "sl"
    exact q cs (by omega) hc
  · rintro i σ M' N hi ⟨cs, x, y, rfl, rfl, x0, x1, rfl, hc⟩ hN
    refine ⟨_, rfl, ?_⟩
    walk_at "sl"
    rw [show ((st : Int) + (0 + (cs.length : Int))) = ((st + cs.length : Nat) : Int) by omega]
    refine cell_at_ok ?_
    walk_at "sl"
    have y0 := Int.emod_nonneg (x * 48271 + cell ns (st + cs.length) + 31 * (0 + (cs.length : Int)) + 1) (show (2147483647 : Int) ≠ 0 by decide)
    have y1 := Int.emod_lt_of_pos (x * 48271 + cell ns (st + cs.length) + 31 * (0 + (cs.length : Int)) + 1) (show (0 : Int) < 2147483647 by decide)
    refine x_append (lst_end _ _) (by rw [List.length_map]; unfold lim; omega) ?_
    rw [set_end, ← List.map_singleton (f := D.int), ← List.map_append]
    refine hN _ _ ⟨cs ++ [_], _, _, rfl, rfl, y0, y1, by rw [List.length_append]; rfl, ?_⟩
    intro c h
    rcases List.mem_append.mp h with h | h
    · exact hc c h
    · rw [List.mem_singleton.mp h]; exact ⟨y0, y1⟩

theorem _law_within_ok {n : Nat} {d : D} {lo hi : Int} {j k : Nat} {M : MS} {Q : VQ} {E : XQ} (t : Th M j (k + 1) d) (q : Q (.bool (betw d lo hi)) M) : wF PP (n + 1) 124 [d, .int lo, .int hi] M Q E := by
  refine wF_call rfl rfl ?_
  dsimp only [d__law_within]
  walk_at "in"
  walk_at "sl"
  refine x_isi t.isInt ?_
  refine x_brnB (fun h1 => ?_) fun h1 => ?_
  · walk_at "sl"
    refine x_isi t.isBool ?_
    walk_at "sl"
    refine x_brnB (fun h2 => ?_) fun h2 => ?_
    · obtain ⟨i, rfl⟩ := isInt_of h1 (by rw [nt h2]; exact Bool.false_ne_true)
      walk_at "sl"
      refine x_brn (fun h3 => ?_) fun h3 => ?_
      · walk_at "sl"
        rw [betw, decide_eq_true h3, Bool.true_and] at q
        exact q
      · rw [betw, decide_eq_false h3, Bool.false_and] at q
        exact q
    · have e : betw d lo hi = false := by cases d <;> first | rfl | (cases h2)
      rw [e] at q
      exact q
  · have e : betw d lo hi = false := by cases d <;> first | rfl | (cases h1)
    rw [e] at q
    exact q

/-- the oracle, where nothing is handled or an error is -/
def OO (hh : Option (Nat × Nat)) (n : Nat) : Oracle := match hh with
  | none => wF PP n
  | some ca => (wF PP n).ex ca.1 ca.2
theorem oo_call {hh : Option (Nat × Nat)} {f n : Nat} {d : Fn} {ds : List D} {M : MS} {Q : VQ} {E : XQ} (hP : PP f = some d) (hl : ds.length = d.nargs)
    (h : wS (OO hh n) d.body (ds.map some ++ List.replicate (d.nslots - d.nargs) none) M { nx := fun _ M' => Q .non M', rt := Q, ex := fun c _ M' => E c M' }) (hf : f < 2000 ∧ (f == 999) = false := by decide) : OO hh (n + 1) f ds M Q E := by
  cases hh with
  | none =>
    have e : ∀ k, OO none k = wF PP k := fun _ => rfl
    rw [e] at h ⊢
    exact wF_call hP hl h hf.1
  | some ca =>
    have e : ∀ k, OO (some ca) k = (wF PP k).ex ca.1 ca.2 := fun _ => rfl
    rw [e] at h ⊢
    have ne : f ≠ 999 := fun e => by rw [e] at hf; exact absurd hf.2 (by decide)
    exact ex_call ne (wF_hot hP hl h)
theorem is_between_ok {hh : Option (Nat × Nat)} {n : Nat} {d : D} {lo hi : Int} {j k : Nat} {M : MS} {Q : VQ} {E : XQ} (t : Th M j (k + 1) d) (q : Q (.bool (betw d lo hi)) M) : OO hh (n + 1) 10 [d, .int lo, .int hi] M Q E := by
  refine oo_call rfl rfl ?_
  dsimp only [d_is_between]
  walk_at "in"
  walk_at "sl"
  refine x_isi t.isInt ?_
  refine x_brnB (fun h1 => ?_) fun h1 => ?_
  · walk_at "sl"
    refine x_isi t.isBool ?_
    walk_at "sl"
    refine x_brnB (fun h2 => ?_) fun h2 => ?_
    · obtain ⟨i, rfl⟩ := isInt_of h1 (by rw [nt h2]; exact Bool.false_ne_true)
      walk_at "sl"
      refine x_brn (fun h3 => ?_) fun h3 => ?_
      · walk_at "sl"
        rw [betw, decide_eq_true h3, Bool.true_and] at q
        exact q
      · rw [betw, decide_eq_false h3, Bool.false_and] at q
        exact q
    · have e : betw d lo hi = false := by cases d <;> first | rfl | (cases h2)
      rw [e] at q
      exact q
  · have e : betw d lo hi = false := by cases d <;> first | rfl | (cases h1)
    rw [e] at q
    exact q
theorem powB_cons {last : Int} {d : D} {r : List D} : powB last (d :: r) = (powB last [d] && powB (match d with
    | .tup [a, _] => intOf a
    | _ => 0) r) := by
  cases d <;> try rfl
  rename_i ds
  match ds with
  | [] => rfl
  | [a] => rfl
  | [a, b] => simp only [powB, Bool.and_true]
  | a :: b :: c :: r => rfl
theorem are_powers_ok {hh : Option (Nat × Nat)} {n : Nat} {d : D} {j k : Nat} {M : MS} {Q : VQ} {E : XQ} (t : Th M j (k + 3) d) (q : Q (.bool (powsB d)) M) : OO hh (n + 2) 14 [d] M Q E := by
  refine oo_call rfl rfl ?_
  dsimp only [d_are_powers]
  walk_at "in"
  walk_at "sl"
  refine x_isi t.isTup ?_
  walk_at "sl"
  refine x_brnB (fun h1 => ?_) fun h1 => ?_
  · walk_at "sl"
    have e : powsB d = false := by cases d <;> first | rfl | (cases h1)
    rw [e] at q
    exact q
  · obtain ⟨ps, rfl⟩ := isTup_of (nf h1)
    have hps : ∀ d ∈ ps, Th M j (k + 2) d := by
      rcases t.cases with e | ⟨_, e⟩ | ⟨_, e⟩ | ⟨_, e⟩ | ⟨ds, e, h⟩ | ⟨_, _, e, _⟩ <;> cases e
      exact h
    walk_at "sl"
    refine x_brn (fun h2 => ?_) fun h2 => ?_
    · walk_at "sl"
      have e := len0 h2
      subst e
      exact q
    · walk_at "sl"
      walk_at "in"
      have q : Q (.bool (powB 1 ps)) M := by
        have e : powsB (.tup ps) = powB 1 ps := by
          show (!decide (ps.length = 0) && powB 1 ps) = _
          rw [decide_eq_false (by omega)]
          rfl
        rw [e] at q
        exact q
      refine wFor_free (fun r σ M' => ∃ (last : Int) (y : Option D), σ = [some (.tup ps), some (.int last), y] ∧ M' = M ∧ (∀ d ∈ r, Th M j (k + 2) d) ∧ powB 1 ps = powB last r) ?_ ?_ ⟨1, none, rfl, rfl, hps, rfl⟩
      · rintro σ M' ⟨last, y, rfl, rfl, _, e⟩
        walk_at "sl"
        rw [e] at q
        exact q
      · rintro d r σ M' N ⟨last, y, rfl, rfl, hr, e⟩ hN
        refine ⟨_, rfl, ?_⟩
        have td := hr d List.mem_cons_self
        have bad : powB last [d] = false → Q (.bool false) M' := fun h => by
          rw [e, powB_cons, h] at q
          exact q
        walk_at "sl"
        refine x_isi td.isTup ?_
        walk_at "sl"
        refine x_brnB (fun h3 => ?_) fun h3 => ?_
        · walk_at "sl"
          exact bad (by cases d <;> first | rfl | (cases h3))
        · obtain ⟨es, rfl⟩ := isTup_of (nf h3)
          have hes : ∀ d ∈ es, Th M' j (k + 1) d := by
            rcases td.cases with e | ⟨_, e⟩ | ⟨_, e⟩ | ⟨_, e⟩ | ⟨ds, e, h⟩ | ⟨_, _, e, _⟩ <;> cases e
            exact h
          walk_at "sl"
          refine x_brn' (fun h4 => ?_) fun h4 => ?_
          · walk_at "sl"
            refine bad ?_
            match es, h4 with
            | [], _ => rfl
            | [a], _ => rfl
            | [a, b], h4 => exact absurd rfl h4
            | a :: b :: c :: r, _ => rfl
          · obtain ⟨a, b, rfl⟩ := len2 h4
            have ta := hes a (by simp)
            have tb := hes b (by simp)
            walk_at "sl"
            refine x_ixT rfl ?_
            walk_at "sl"
            refine is_between_ok ta ?_
            walk_at "sl"
            refine x_brnB (fun h5 => ?_) fun h5 => ?_
            · walk_at "sl"
              refine bad ?_
              rw [powB, show betw a (last + 1) BND = false from nt h5]
              rfl
            · have h5 : betw a (last + 1) BND = true := nf h5
              obtain ⟨i, rfl, _, _⟩ := betw_int h5
              walk_at "sl"
              refine x_ixT rfl ?_
              walk_at "sl"
              refine is_between_ok tb ?_
              walk_at "sl"
              refine x_brnB (fun h6 => ?_) fun h6 => ?_
              · walk_at "sl"
                refine bad ?_
                rw [powB, h5, show betw b 1 100 = false from nt h6]
                rfl
              · have h6 : betw b 1 100 = true := nf h6
                walk_at "sl"
                refine x_ixT rfl ?_
                refine hN _ _ ⟨i, _, rfl, rfl, fun d hd => hr d (List.mem_cons_of_mem _ hd), ?_⟩
                rw [e, powB, h5, h6]
                rfl
theorem are_facts_ok {hh : Option (Nat × Nat)} {n : Nat} {w : List Nat} {fs : List D} {j k : Nat} {M : MS} {Q : VQ} {E : XQ} (t : ∀ d ∈ fs, Th M j (k + 3) d) (q : Q (.bool (factsB w fs)) M) : OO hh (n + 3) 15 [.str w, .tup fs] M Q E := by
  refine oo_call rfl rfl ?_
  dsimp only [d_are_facts]
  walk_at "in"
  walk_at "sl"
  refine x_brn (fun h => ?_) fun h => ?_
  · walk_at "sl"
    unfold factsB at q
    rw [if_pos (show w = sFirst from h)] at q
    by_cases e : fs.length = 0
    · rw [decide_eq_true e] at q; rw [decide_eq_true (show (fs.length : Int) = 0 by omega)]; exact q
    · rw [decide_eq_false e] at q; rw [decide_eq_false (show ¬ (fs.length : Int) = 0 by omega)]; exact q
  unfold factsB at q
  rw [if_neg (show ¬ w = sFirst from h)] at q
  walk_at "sl"
  refine x_brn (fun h => ?_) fun h => ?_
  · rw [if_pos (show w = sPrime from h)] at q
    walk_at "sl"
    refine x_brn (fun h2 => ?_) fun h2 => ?_
    · obtain ⟨a, b, rfl⟩ := len2 h2
      have ta := t a (by simp)
      have tb := t b (by simp)
      walk_at "sl"
      refine x_ixT rfl ?_
      walk_at "sl"
      refine is_between_ok ta ?_
      refine x_brnB (fun h3 => ?_) fun h3 => ?_
      · walk_at "sl"
        refine x_ixT rfl ?_
        walk_at "sl"
        refine are_powers_ok tb ?_
        replace q : Q (.bool (betw a 1 BND && powsB b)) M := q
        rw [show betw a 1 BND = true from h3, Bool.true_and] at q
        exact q
      · replace q : Q (.bool (betw a 1 BND && powsB b)) M := q
        rw [show betw a 1 BND = false from h3, Bool.false_and] at q
        exact q
    · rw [f2_no h2] at q
      exact q
  rw [if_neg (show ¬ w = sPrime from h)] at q
  walk_at "sl"
  refine x_brn (fun h => ?_) fun h => ?_
  · rw [if_pos (show w = sSplit from h)] at q
    walk_at "sl"
    refine x_brn (fun h2 => ?_) fun h2 => ?_
    · obtain ⟨a, b, rfl⟩ := len2 h2
      have ta := t a (by simp)
      have tb := t b (by simp)
      walk_at "sl"
      refine x_ixT rfl ?_
      walk_at "sl"
      refine is_between_ok ta ?_
      refine x_brnB (fun h3 => ?_) fun h3 => ?_
      · walk_at "sl"
        refine x_ixT rfl ?_
        walk_at "sl"
        refine is_between_ok tb ?_
        replace q : Q (.bool (betw a 2 BND && betw b 2 BND)) M := q
        rw [show betw a 2 BND = true from h3, Bool.true_and] at q
        exact q
      · replace q : Q (.bool (betw a 2 BND && betw b 2 BND)) M := q
        rw [show betw a 2 BND = false from h3, Bool.false_and] at q
        exact q
    · rw [f2_no h2] at q
      exact q
  rw [if_neg (show ¬ w = sSplit from h)] at q
  walk_at "sl"
  have last : w = sPower ∨ w = sRoot → wE (OO hh (n + 2)) (.and_ (.cmp .eq (.bi .len (.cons (.var 1) .nil)) (.con (.int 1))) (.call 10 (.cons (.idx (.var 1) (.con (.int 0))) (.cons (.con (.int 1)) (.cons (.con (.int 1000000000000000000000000000000)) .nil))))) [some (.str w), some (.tup fs)] M Q E := by
    intro h
    rw [if_pos h] at q
    walk_at "sl"
    refine x_brn (fun h2 => ?_) fun h2 => ?_
    · obtain ⟨a, rfl⟩ := len1 h2
      have ta := t a (by simp)
      walk_at "sl"
      refine x_ixT rfl ?_
      walk_at "sl"
      exact is_between_ok ta q
    · rw [f1_no h2] at q
      exact q
  refine x_brn (fun h => ?_) fun h => ?_
  · walk_at "sl"
    exact last (.inl h)
  · walk_at "sl"
    refine x_brn (fun h' => ?_) fun h' => ?_
    · walk_at "sl"
      exact last (.inr h')
    · rw [if_neg (fun z => z.elim h h')] at q
      walk_at "sl"
      exact q
theorem is_row_ok {hh : Option (Nat × Nat)} {n : Nat} {d : D} {j k : Nat} {M : MS} {Q : VQ} {E : XQ} (t : Th M j (k + 5) d) (q : Q (.bool (rowB d)) M) : OO hh (n + 4) 16 [d] M Q E := by
  refine oo_call rfl rfl ?_
  dsimp only [d_is_row]
  walk_at "in"
  walk_at "sl"
  refine x_isi t.isTup ?_
  walk_at "sl"
  refine x_brnB (fun h1 => ?_) fun h1 => ?_
  · walk_at "sl"
    have e : rowB d = false := by cases d <;> first | rfl | (cases h1)
    rw [e] at q
    exact q
  obtain ⟨ds, rfl⟩ := isTup_of (nf h1)
  have hds := t.items
  walk_at "sl"
  refine x_brn' (fun h2 => ?_) fun h2 => ?_
  · walk_at "sl"
    have e : rowB (.tup ds) = false := f3_no h2
    rw [e] at q
    exact q
  obtain ⟨a, b, c, rfl⟩ := len3 h2
  have ta := hds a (by simp)
  have tb := hds b (by simp)
  have tc := hds c (by simp)
  replace q : Q (.bool (betw a 2 BND && sfB b c)) M := q
  walk_at "sl"
  refine x_ixT rfl ?_
  walk_at "sl"
  refine is_between_ok ta ?_
  walk_at "sl"
  refine x_brnB (fun h3 => ?_) fun h3 => ?_
  · walk_at "sl"
    rw [show betw a 2 BND = false from nt h3] at q
    exact q
  rw [show betw a 2 BND = true from nf h3, Bool.true_and] at q
  walk_at "sl"
  refine x_ixT rfl ?_
  walk_at "sl"
  refine x_isi tb.isStr ?_
  refine x_brnB (fun h4 => ?_) fun h4 => ?_
  · obtain ⟨w, rfl⟩ := isStr_of h4
    walk_at "sl"
    refine x_ixT rfl ?_
    walk_at "sl"
    refine x_isi tc.isTup ?_
    refine x_brnB (fun h5 => ?_) fun h5 => ?_
    · obtain ⟨fs, rfl⟩ := isTup_of h5
      walk_at "sl"
      refine x_ixT rfl ?_
      walk_at "sl"
      refine x_ixT rfl ?_
      walk_at "sl"
      exact are_facts_ok tc.items q
    · have e : sfB (.str w) c = false := by cases c <;> first | rfl | (cases h5)
      rw [e] at q
      exact q
  · have e : sfB b c = false := by cases b <;> first | rfl | (cases h4)
    rw [e] at q
    exact q
theorem is_slip_ok {hh : Option (Nat × Nat)} {n : Nat} {d : D} {j k : Nat} {M : MS} {Q : VQ} {E : XQ} (t : Th M j (k + 6) d) (q : Q (.bool (slipB d)) M) : OO hh (n + 5) 22 [d] M Q E := by
  refine oo_call rfl rfl ?_
  dsimp only [d_is_slip]
  walk_at "in"
  walk_at "sl"
  refine x_isi t.isTup ?_
  walk_at "sl"
  refine x_brnB (fun h1 => ?_) fun h1 => ?_
  · walk_at "sl"
    have e : slipB d = false := by cases d <;> first | rfl | (cases h1)
    rw [e] at q
    exact q
  obtain ⟨rs, rfl⟩ := isTup_of (nf h1)
  have hrs := t.items
  replace q : Q (.bool (decide (1 ≤ rs.length) && decide (rs.length ≤ 200) && upB 1 rs)) M := q
  walk_at "sl"
  have bad : ¬ (1 ≤ rs.length ∧ rs.length ≤ 200) → Q (.bool false) M := fun h => by
    have e : (decide (1 ≤ rs.length) && decide (rs.length ≤ 200)) = false := by
      rw [Bool.and_eq_false_iff]
      rcases Nat.lt_or_ge rs.length 1 with c | c
      · exact .inl (decide_eq_false (by omega))
      · exact .inr (decide_eq_false (by omega))
    rw [e] at q
    exact q
  refine x_brn (fun h2 => ?_) fun h2 => ?_
  · walk_at "sl"
    refine x_brn' (fun h3 => ?_) fun h3 => ?_
    · walk_at "sl"
      exact bad (by omega)
    · rw [decide_eq_true (show 1 ≤ rs.length by omega), decide_eq_true (show rs.length ≤ 200 by omega), Bool.true_and, Bool.true_and] at q
      walk_at "sl"
      walk_at "in"
      refine wFor_free (fun r σ M' => ∃ (last : Int) (y : Option D), σ = [some (.tup rs), some (.int last), y] ∧ M' = M ∧ (∀ d ∈ r, Th M j (k + 5) d) ∧ upB 1 rs = upB last r) ?_ ?_ ⟨1, none, rfl, rfl, hrs, rfl⟩
      · rintro σ M' ⟨last, y, rfl, rfl, _, e⟩
        walk_at "sl"
        rw [e] at q
        exact q
      · rintro d r σ M' N ⟨last, y, rfl, rfl, hr, e⟩ hN
        refine ⟨_, rfl, ?_⟩
        have td := hr d List.mem_cons_self
        walk_at "sl"
        refine is_row_ok td ?_
        walk_at "sl"
        refine x_brnB (fun h4 => ?_) fun h4 => ?_
        · walk_at "sl"
          rw [e, upB, nt h4] at q
          exact q
        · obtain ⟨i, rest, rfl, _, _⟩ := rowB_head (nf h4)
          walk_at "sl"
          refine x_ixT atI_zero ?_
          walk_at "sl"
          refine x_brn (fun h5 => ?_) fun h5 => ?_
          · walk_at "sl"
            rw [e, upB, nf h4, decide_eq_false (show ¬ last < headI (.tup (.int i :: rest)) from fun z => by have z : last < i := z; omega)] at q
            exact q
          · walk_at "sl"
            refine x_ixT atI_zero ?_
            refine hN _ _ ⟨i, _, rfl, rfl, fun d hd => hr d (List.mem_cons_of_mem _ hd), ?_⟩
            rw [e, upB, nf h4, decide_eq_true (show last < headI (.tup (.int i :: rest)) from by show last < i; omega)]
            rfl
  · walk_at "sl"
    exact bad (by omega)

theorem rising_ok {n : Nat} {ps : List D} {j k : Nat} {M : MS} {Q : VQ} {E : XQ} (hps : ∀ d ∈ ps, Th M j (k + 2) d) (q : Q (.bool (powB 1 ps)) M) : wF PP (n + 2) 123 [.tup ps] M Q E := by
  refine wF_call rfl rfl ?_
  dsimp only [d__law_rising]
  walk_at "in"
  walk_at "sl"
  walk_at "in"
  refine wFor_free (fun r σ M' => ∃ (last : Int) (y : Option D), σ = [some (.tup ps), some (.int last), y] ∧ M' = M ∧ (∀ d ∈ r, Th M j (k + 2) d) ∧ powB 1 ps = powB last r) ?_ ?_ ⟨1, none, rfl, rfl, hps, rfl⟩
  · rintro σ M' ⟨last, y, rfl, rfl, _, e⟩
    walk_at "sl"
    rw [e] at q
    exact q
  · rintro d r σ M' N ⟨last, y, rfl, rfl, hr, e⟩ hN
    refine ⟨_, rfl, ?_⟩
    have td := hr d List.mem_cons_self
    have bad : powB last [d] = false → Q (.bool false) M' := fun h => by
      rw [e, powB_cons, h] at q
      exact q
    walk_at "sl"
    refine x_isi td.isTup ?_
    walk_at "sl"
    refine x_brnB (fun h3 => ?_) fun h3 => ?_
    · walk_at "sl"
      exact bad (by cases d <;> first | rfl | (cases h3))
    · obtain ⟨es, rfl⟩ := isTup_of (nf h3)
      have hes := td.items
      walk_at "sl"
      refine x_brn' (fun h4 => ?_) fun h4 => ?_
      · walk_at "sl"
        refine bad ?_
        match es, h4 with
        | [], _ => rfl
        | [a], _ => rfl
        | [a, b], h4 => exact absurd rfl h4
        | a :: b :: c :: r, _ => rfl
      · obtain ⟨a, b, rfl⟩ := len2 h4
        have ta := hes a (by simp)
        have tb := hes b (by simp)
        walk_at "sl"
        refine x_ixT rfl ?_
        walk_at "sl"
        refine _law_within_ok ta ?_
        walk_at "sl"
        refine x_brnB (fun h5 => ?_) fun h5 => ?_
        · walk_at "sl"
          refine bad ?_
          rw [powB, show betw a (last + 1) BND = false from nt h5]
          rfl
        · have h5 : betw a (last + 1) BND = true := nf h5
          obtain ⟨i, rfl, _, _⟩ := betw_int h5
          walk_at "sl"
          refine x_ixT rfl ?_
          walk_at "sl"
          refine _law_within_ok tb ?_
          walk_at "sl"
          refine x_brnB (fun h6 => ?_) fun h6 => ?_
          · walk_at "sl"
            refine bad ?_
            rw [powB, h5, show betw b 1 100 = false from nt h6]
            rfl
          · have h6 : betw b 1 100 = true := nf h6
            walk_at "sl"
            refine x_ixT rfl ?_
            refine hN _ _ ⟨i, _, rfl, rfl, fun d hd => hr d (List.mem_cons_of_mem _ hd), ?_⟩
            rw [e, powB, h5, h6]
            rfl
theorem row_right_ok {n : Nat} {d : D} {k : Nat} {M : MS} {Q : VQ} {E : XQ} (t : Th M 6 (k + 5) d) (hk : k ≤ 50) (q : Q (.bool (rowB d)) M) : wF PP (n + 3) 125 [d] M Q E := by
  refine wF_call rfl rfl ?_
  dsimp only [d__law_row_right]
  walk_at "in"
  walk_at "sl"
  refine x_isi t.isTup ?_
  walk_at "sl"
  refine x_brnB (fun h1 => ?_) fun h1 => ?_
  · walk_at "sl"
    have e : rowB d = false := by cases d <;> first | rfl | (cases h1)
    rw [e] at q
    exact q
  obtain ⟨ds, rfl⟩ := isTup_of (nf h1)
  have hds := t.items
  walk_at "sl"
  refine x_brn' (fun h2 => ?_) fun h2 => ?_
  · walk_at "sl"
    have e : rowB (.tup ds) = false := f3_no h2
    rw [e] at q
    exact q
  obtain ⟨a, b, c, rfl⟩ := len3 h2
  have ta := hds a (by simp)
  have tb := hds b (by simp)
  have tc := hds c (by simp)
  replace q : Q (.bool (betw a 2 BND && sfB b c)) M := q
  walk_at "sl"
  refine x_ixT rfl ?_
  walk_at "sl"
  refine _law_within_ok ta ?_
  walk_at "sl"
  refine x_brnB (fun h3 => ?_) fun h3 => ?_
  · walk_at "sl"
    rw [show betw a 2 BND = false from nt h3] at q
    exact q
  rw [show betw a 2 BND = true from nf h3, Bool.true_and] at q
  walk_at "sl"
  refine x_ixT rfl ?_
  walk_at "sl"
  refine x_isi tb.isStr ?_
  walk_at "sl"
  refine x_brnB (fun h4 => ?_) fun h4 => ?_
  · walk_at "sl"
    have e : sfB b c = false := by cases b <;> first | rfl | (cases h4)
    rw [e] at q
    exact q
  obtain ⟨w, rfl⟩ := isStr_of (nf h4)
  walk_at "sl"
  refine x_ixT rfl ?_
  walk_at "sl"
  refine x_isi tc.isTup ?_
  walk_at "sl"
  refine x_brnB (fun h5 => ?_) fun h5 => ?_
  · walk_at "sl"
    have e : sfB (.str w) c = false := by cases c <;> first | rfl | (cases h5)
    rw [e] at q
    exact q
  obtain ⟨fs, rfl⟩ := isTup_of (nf h5)
  have tf := tc.items
  replace q : Q (.bool (factsB w fs)) M := q
  unfold factsB at q
  walk_at "sl"
  refine x_ixT rfl ?_
  walk_at "sl"
  refine x_ixT rfl ?_
  walk_at "sl"
  refine x_brn (fun h => ?_) fun h => ?_
  · walk_at "sl"
    rw [if_pos (show w = sFirst from h)] at q
    exact x_eqNil (tc.later (Ls.refl M)) q
  rw [if_neg (show ¬ w = sFirst from h)] at q
  walk_at "sl"
  refine x_ixT rfl ?_
  walk_at "sl"
  refine x_brn (fun h => ?_) fun h' => ?_
  · rw [if_neg (by rw [h]; decide), if_pos (show w = sSplit from h)] at q
    walk_at "sl"
    refine x_brn (fun h2 => ?_) fun h2 => ?_
    · obtain ⟨x, y, rfl⟩ := len2 h2
      have tx := tf x (by simp)
      have ty := tf y (by simp)
      replace q : Q (.bool (betw x 2 BND && betw y 2 BND)) M := q
      walk_at "sl"
      refine x_ixT rfl ?_
      walk_at "sl"
      refine _law_within_ok tx ?_
      refine x_brnB (fun h3 => ?_) fun h3 => ?_
      · walk_at "sl"
        refine x_ixT rfl ?_
        walk_at "sl"
        refine _law_within_ok ty ?_
        rw [show betw x 2 BND = true from h3, Bool.true_and] at q
        exact q
      · rw [show betw x 2 BND = false from h3, Bool.false_and] at q
        exact q
    · rw [f2_no h2] at q
      exact q
  have last : w = sPower ∨ w = sRoot → wE (wF PP (n + 2)) (.and_ (.cmp .eq (.bi .len (.cons (.var 1) .nil)) (.con (.int 1))) (.call 124 (.cons (.idx (.var 1) (.con (.int 0))) (.cons (.con (.int 1)) (.cons (.bin .pow (.con (.int 10)) (.con (.int 30))) .nil))))) [some (.tup [a, .str w, .tup fs]), some (.tup fs)] M Q E := by
    intro hw
    rw [if_neg (by rcases hw with e | e <;> rw [e] <;> decide), if_neg (by rcases hw with e | e <;> rw [e] <;> decide), if_pos hw] at q
    walk_at "sl"
    refine x_brn (fun h2 => ?_) fun h2 => ?_
    · obtain ⟨x, rfl⟩ := len1 h2
      have tx := tf x (by simp)
      walk_at "sl"
      refine x_ixT rfl ?_
      walk_at "sl"
      exact _law_within_ok tx q
    · rw [f1_no h2] at q
      exact q
  walk_at "sl"
  refine x_ixT rfl ?_
  walk_at "sl"
  refine x_brn (fun e1 => ?_) fun e1 => ?_
  · walk_at "sl"
    exact last (.inl e1)
  walk_at "sl"
  refine x_ixT rfl ?_
  walk_at "sl"
  refine x_brn (fun e2 => ?_) fun e2 => ?_
  · walk_at "sl"
    exact last (.inr e2)
  walk_at "sl"
  refine x_ixT rfl ?_
  walk_at "sl"
  refine x_brn' (fun e3 => ?_) fun e3 => ?_
  · rw [if_neg (show ¬ w = sPrime from e3), if_neg (show ¬ w = sSplit from h'), if_neg (fun z => z.elim e1 e2)] at q
    walk_at "sl"
    exact q
  rw [if_pos (show w = sPrime from e3)] at q
  walk_at "sl"
  refine x_brn' (fun h2 => ?_) fun h2 => ?_
  · rw [f2_no h2] at q
    walk_at "sl"
    exact q
  obtain ⟨x, y, rfl⟩ := len2 h2
  have tx := tf x (by simp)
  have ty := tf y (by simp)
  replace q : Q (.bool (betw x 1 BND && powsB y)) M := q
  walk_at "sl"
  refine x_ixT rfl ?_
  walk_at "sl"
  refine _law_within_ok tx ?_
  walk_at "sl"
  refine x_brnB (fun h3 => ?_) fun h3 => ?_
  · rw [show betw x 1 BND = false from nt h3, Bool.false_and] at q
    walk_at "sl"
    exact q
  rw [show betw x 1 BND = true from nf h3, Bool.true_and] at q
  walk_at "sl"
  refine x_ixT rfl ?_
  walk_at "sl"
  refine x_isi ty.isTup ?_
  refine x_brnB (fun h4 => ?_) fun h4 => ?_
  · obtain ⟨ps, rfl⟩ := isTup_of h4
    replace q : Q (.bool (!decide (ps.length = 0) && powB 1 ps)) M := q
    walk_at "sl"
    refine x_ixT rfl ?_
    walk_at "sl"
    refine x_brn (fun h6 => ?_) fun h6 => ?_
    · walk_at "sl"
      refine x_ixT rfl ?_
      walk_at "sl"
      rw [decide_eq_false (show ¬ ps.length = 0 by omega)] at q
      exact rising_ok ty.items q
    · rw [decide_eq_true (show ps.length = 0 by omega)] at q
      exact q
  · have e : powsB y = false := by cases y <;> first | rfl | (cases h4)
    rw [e] at q
    exact q

theorem lpower_ok {n : Nat} {b e m : Int} {M : MS} {Q : VQ} {E : XQ} (hm : 0 < m) (sm : Sm m) (sb : Sm b) (he : 0 ≤ e) (he1 : e < 2 ^ 200) (q : ∀ M', Gr M M' → Q (.int (b ^ e.toNat % m)) M') : wF PP (n + 1) 106 [.int b, .int e, .int m] M Q E := by
  refine wF_call rfl rfl ?_
  dsimp only [d__law_power]
  walk_at "in"
  walk_at "sl"
  refine whl_inv (fun k σ M' => ∃ (e' : Int) (bs : List Int), σ = [some (.int b), some (.int e'), some (.int m), some (.ref M.length), none, none] ∧ M' = M ++ [.lst (bs.map .int)] ∧ k = e'.toNat ∧ 0 ≤ e' ∧ hv e'.toNat bs.reverse = e.toNat ∧ e'.toNat * 2 ^ bs.length ≤ e.toNat ∧ bs.length < 300 ∧ ∀ c ∈ bs, c = 0 ∨ c = 1)
    (k := e.toNat) ⟨e, [], rfl, rfl, rfl, he, rfl, by rw [List.length_nil, Nat.pow_zero, Nat.mul_one]; exact Nat.le_refl _, by decide, fun _ h => nomatch h⟩ ?_
  rintro k σ M' N ⟨e', bs, rfl, rfl, rfl, e0, hh, hb, hlen, h01⟩ hN
  walk_at "sl"
  refine x_brn (fun e1 => ?_) fun e1 => ?_
  · walk_at "sl"
    refine x_append (lst_end _ _) (by rw [List.length_map]; unfold lim; omega) ?_
    rw [set_end, ← List.map_singleton (f := D.int), ← List.map_append]
    walk_at "sl"
    have h2 : (e' / 2).toNat * 2 ^ (bs ++ [e' % 2]).length ≤ e.toNat := by
      rw [List.length_append, show bs.length + [e' % 2].length = bs.length + 1 from rfl, Nat.pow_succ, Nat.mul_comm (2 ^ bs.length), ← Nat.mul_assoc]
      exact Nat.le_trans (Nat.mul_le_mul_right _ (by omega)) hb
    refine hN (e' / 2).toNat _ _ (by omega) ⟨e' / 2, bs ++ [e' % 2], rfl, rfl, rfl, by omega, ?_, h2, ?_, ?_⟩
    · rw [List.reverse_append, List.reverse_singleton, List.singleton_append, hv, show 2 * (e' / 2).toNat + (e' % 2).toNat = e'.toNat by omega]
      exact hh
    · rw [List.length_append]
      show bs.length + 1 < 300
      rcases Nat.lt_or_ge bs.length 200 with c | c
      · omega
      · exfalso
        have h3 : 1 * 2 ^ 200 ≤ e'.toNat * 2 ^ bs.length := Nat.mul_le_mul (by omega) (Nat.pow_le_pow_right (by decide) c)
        have h4 : e.toNat < 2 ^ 200 := by omega
        omega
    · intro c hc
      rcases List.mem_append.mp hc with hc | hc
      · exact h01 c hc
      · rw [List.mem_singleton.mp hc]; omega
  · walk_at "sl"
    have e2 : e' = 0 := by omega
    subst e2
    have hf : ∀ x : Int, 0 ≤ x % m ∧ x % m < m := fun x => ⟨Int.emod_nonneg _ (by omega), Int.emod_lt_of_pos _ hm⟩
    have sf : ∀ x : Int, Sm (x % m) := fun x => sm.of_le (hf x).1 (Int.le_of_lt (hf x).2)
    refine wFor_inv (fun r σ M' => ∃ (a : Nat) (x : Int) (y : Option D) (rs : List Int), σ = [some (.int b), some (.int 0), some (.int m), some (.ref M.length), some (.int x), y] ∧ M' = M ++ [.lst (bs.map .int)] ∧ x = b ^ a % m ∧ r = rs.map .int ∧ hv a rs = e.toNat ∧ ∀ c ∈ rs, c = 0 ∨ c = 1) ?_ ?_ _ _ _
      ⟨0, 1 % m, none, bs.reverse, rfl, rfl, by rw [Int.pow_zero], by rw [List.map_reverse], hh, ?_⟩
    · rintro σ M' ⟨a, x, y, rs, rfl, rfl, rfl, h1, h2, _⟩
      refine ⟨lst_end _ _, ?_⟩
      dsimp only [Hold.fin]
      walk_at "sl"
      cases rs with
      | nil =>
        rw [hv] at h2
        rw [h2]
        exact q _ (Gr.app _ _)
      | cons c rs => cases h1
    · rintro d r σ M' N' ⟨a, x, y, rs, rfl, rfl, rfl, h1, h2, h3⟩ hN'
      cases rs with
      | nil => cases h1
      | cons c rs =>
        obtain ⟨rfl, rfl⟩ := List.cons.inj h1
        refine ⟨lst_end _ _, _, rfl, ?_⟩
        walk_at "sl"
        refine x_mulI (sf _) (sf _) ?_
        walk_at "sl"
        rw [hv] at h2
        have sq : (b ^ a % m) * (b ^ a % m) % m = b ^ (2 * a) % m := by rw [mod_mul_l, mod_mul_r, ← ipow_add, show a + a = 2 * a by omega]
        refine x_brn (fun hc => ?_) fun hc => ?_
        · walk_at "sl"
          refine x_mulI (sf _) sb ?_
          walk_at "sl"
          refine hN' _ _ ⟨2 * a + c.toNat, _, _, rs, rfl, rfl, ?_, rfl, h2, fun c hc => h3 c (List.mem_cons_of_mem _ hc)⟩
          rw [sq, mod_mul_l, ← Int.pow_succ, hc]
          rfl
        · walk_at "sl"
          have hc0 : c = 0 := (h3 c List.mem_cons_self).resolve_right hc
          refine hN' _ _ ⟨2 * a + c.toNat, _, _, rs, rfl, rfl, ?_, rfl, h2, fun c hc => h3 c (List.mem_cons_of_mem _ hc)⟩
          rw [sq, hc0]
          rfl
    · exact fun c hc => h01 c (List.mem_reverse.mp hc)

theorem lround_ok {n : Nat} {p b : Int} {ps : List (Int × Int)} {M : MS} {Q : VQ} {E : XQ} (hp : 2 ≤ p) (h1 : p < 2 ^ 190) (b0 : 0 ≤ b) (b1 : b ≤ p) (hps : ∀ x ∈ ps, 2 ≤ x.1 ∧ x.1 < 2 ^ 190)
    (q : ∀ (k : Bool) M', Gr M M' → (k = true → Rnd p b ps) → (Rnd p b ps → k = true) → Q (.bool k) M') : wF PP (n + 2) 107 [.int p, .int b, .tup (ps.map fun x => .tup [.int x.1, .int x.2])] M Q E := by
  have s2 : ∀ x : Int, 0 ≤ x → x ≤ p → Sm x := fun x h0 hx => Sm.of_nat 190 (by omega) (by decide)
  refine wF_call rfl rfl ?_
  dsimp only [d__law_round]
  walk_at "in"
  walk_at "sl"
  refine lpower_ok (by omega) (s2 _ (by omega) (by omega)) (s2 _ b0 b1) (by omega) (by omega) fun M1 g1 => ?_
  walk_at "sl"
  refine x_brn' (fun e1 => ?_) fun e1 => ?_
  · walk_at "sl"
    exact q _ _ g1 (fun z => Bool.noConfusion z) fun z => absurd z.1 e1
  · walk_at "sl"
    walk_at "in"
    refine wFor_free (fun r σ M' => ∃ (y z : Option D) (rs : List (Int × Int)), σ = [some (.int p), some (.int b), some (.tup (ps.map fun x => .tup [.int x.1, .int x.2])), y, z] ∧ Gr M M' ∧ r = rs.map (fun x => .tup [.int x.1, .int x.2]) ∧ (∀ x ∈ rs, x ∈ ps) ∧
        ((∀ x ∈ rs, ¬ b ^ ((p - 1) / x.1).toNat % p = 1) → ∀ x ∈ ps, ¬ b ^ ((p - 1) / x.1).toNat % p = 1)) ?_ ?_ ⟨none, none, ps, rfl, g1, rfl, fun _ h => h, fun h => h⟩
    · rintro σ M' ⟨y, z, rs, rfl, g, h1, _, h3⟩
      walk_at "sl"
      cases rs with
      | nil => exact q _ _ g (fun _ => ⟨e1, h3 fun _ h => nomatch h⟩) fun _ => rfl
      | cons c rs => cases h1
    · rintro d r σ M' N ⟨y, z, rs, rfl, g, h1, hm, h3⟩ hN
      cases rs with
      | nil => cases h1
      | cons c rs =>
        obtain ⟨rfl, rfl⟩ := List.cons.inj h1
        refine ⟨_, rfl, ?_⟩
        have hc := hm c List.mem_cons_self
        have c2 := hps c hc
        walk_at "sl"
        refine x_divI (by omega) (Sm.of_nat 190 (by omega) (by decide)) ?_
        walk_at "sl"
        have e0 : 0 ≤ (p - 1) / c.1 := Int.ediv_nonneg (by omega) (by omega)
        have e2 : (p - 1) / c.1 ≤ p - 1 := Int.ediv_le_self _ (by omega)
        refine lpower_ok (by omega) (s2 _ (by omega) (by omega)) (s2 _ b0 b1) e0 (by omega) fun M2 g2 => ?_
        walk_at "sl"
        refine x_brn (fun e => ?_) fun e => ?_
        · walk_at "sl"
          exact q _ _ (g.trans g2) (fun z => Bool.noConfusion z) fun z => absurd e (z.2 c hc)
        · walk_at "sl"
          refine hN _ _ ⟨_, _, rs, rfl, g.trans g2, rfl, fun x hx => hm x (List.mem_cons_of_mem _ hx), fun h => h3 fun x hx => ?_⟩
          rcases List.mem_cons.mp hx with rfl | hx
          · exact e
          · exact h x hx

theorem lis_prime_ok {n : Nat} {v : Int} {M : MS} {Q : VQ} {E : XQ} (v1 : v.natAbs < 2 ^ 200) (q : ∀ k : Bool, (k = true → Pri v) → (Pri v → k = true) → Q (.bool k) M) : wF PP (n + 1) 108 [.int v] M Q E := by
  refine wF_call rfl rfl ?_
  dsimp only [d__law_is_prime]
  walk_at "in"
  walk_at "sl"
  refine whl_inv (fun k σ M' => ∃ a : Int, σ = [some (.int v), some (.int a)] ∧ M' = M ∧ k = (v + 1 - a).toNat ∧ 2 ≤ a ∧ (a ≤ v + 1 ∨ a = 2) ∧ ∀ k : Int, 2 ≤ k → k < a → ¬ v % k = 0) (k := (v + 1 - 2).toNat)
    ⟨2, rfl, rfl, rfl, by omega, .inr rfl, fun k k0 k1 => by omega⟩ ?_
  rintro k σ M' N ⟨a, rfl, rfl, rfl, a0, a1, am⟩ hN
  have sa : Sm a := Sm.of_nat 201 (Nat.lt_of_le_of_lt (show a.natAbs ≤ v.natAbs + 2 by omega) (by rw [Nat.pow_succ]; omega)) (by decide)
  have aa : a * 1 ≤ a * a := Int.mul_le_mul_of_nonneg_left (by omega) (by omega)
  have a22 : a * 2 ≤ a * a := Int.mul_le_mul_of_nonneg_left (by omega) (by omega)
  walk_at "sl"
  refine x_brn (fun hb => ?_) fun hb => ?_
  · walk_at "sl"
    refine x_brn (fun hc => ?_) fun hc => ?_
    · walk_at "sl"
      exact q _ (fun z => Bool.noConfusion z) fun z => absurd hc (z.2 a a0 (by omega))
    · walk_at "sl"
      refine hN (v + 1 - (a + 1)).toNat _ _ (by omega) ⟨a + 1, rfl, rfl, rfl, by omega, by omega, fun k k0 k1 hk => ?_⟩
      by_cases e : k = a
      · subst e; exact hc hk
      · exact am k k0 (by omega) hk
  · walk_at "sl"
    refine q _ (fun z => ⟨by have := of_decide_eq_true z; omega, fun k k0 k1 hk => ?_⟩) fun z => decide_eq_true (by have := z.1; omega)
    obtain ⟨p, hp⟩ := Int.dvd_of_emod_eq_zero hk
    by_cases ka : k < a
    · exact am k k0 ka hk
    · have p0 : 0 < p := by
        rcases Int.lt_or_le 0 p with h | h
        · exact h
        · have : k * p ≤ k * 0 := Int.mul_le_mul_of_nonneg_left h (by omega)
          omega
      have p1 : p ≠ 1 := fun e => by subst e; omega
      have pa : p < a := by
        rcases Int.lt_or_le p a with h | h
        · exact h
        · have h1 : a * a ≤ k * a := Int.mul_le_mul_of_nonneg_right (by omega) (by omega)
          have h2 : k * a ≤ k * p := Int.mul_le_mul_of_nonneg_left h (by omega)
          omega
      refine am p (by omega) pa ?_
      rw [hp, Int.mul_emod_left]

theorem lfactors_ok {n : Nat} {v : Int} {M : MS} {Q : VQ} {E : XQ} (v0 : 1 ≤ v) (v1 : v ≤ 1000000) (q : ∀ ps M', Gr M M' → Fac v ps → Q (.tup (ps.map pairD)) M') : wF PP (n + 1) 109 [.int v] M Q E := by
  refine wF_call rfl rfl ?_
  dsimp only [d__law_factors]
  walk_at "in"
  walk_at "sl"
  refine whl_inv (fun k σ M' => ∃ (m a : Int) (t : Option D) (ps : List (Int × Int)), σ = [some (.int m), some (.ref M.length), some (.int a), t] ∧ M' = M ++ [.lst (ps.map pairD)] ∧ k = (v + 2 - a).toNat ∧ 2 ≤ a ∧ 1 ≤ m ∧ m ≤ v ∧
      prodP ps * m = v ∧ (m = 1 ∨ a ≤ m) ∧ a ≤ v + 1 ∧ (∀ k : Int, 2 ≤ k → k < a → ¬ m % k = 0) ∧ (∀ p ∈ ps, Pri p.1 ∧ p.1 < a ∧ 1 ≤ p.2 ∧ p.2 ≤ v ∧ v % p.1 = 0) ∧ ps.Pairwise (fun x y => x.1 < y.1) ∧ ps.length + 2 ≤ a) (k := (v + 2 - 2).toNat) ?_ ?_
  · refine ⟨v, 2, none, [], rfl, rfl, rfl, by omega, v0, by omega, by rw [prodP, Int.one_mul], by omega, by omega, fun k k0 k1 => by omega, fun _ h => (nomatch h), List.Pairwise.nil, by decide⟩
  · rintro k σ M' N ⟨m, a, t, ps, rfl, rfl, rfl, a0, m0, m1, pr, ma, av, am, hps, up, hl⟩ hN
    walk_at "sl"
    refine x_brn (fun h1 => ?_) fun h1 => ?_
    · have a2 : a ≤ m := by omega
      walk_at "sl"
      refine whl_inv (fun k σ M' => ∃ (m' t : Int), σ = [some (.int m'), some (.ref M.length), some (.int a), some (.int t)] ∧ M' = M ++ [.lst (ps.map pairD)] ∧ k = m'.toNat ∧ 1 ≤ m' ∧ 0 ≤ t ∧ m' * a ^ t.toNat = m ∧ m' + t ≤ m) (k := m.toNat) ?_ ?_
      · exact ⟨m, 0, rfl, rfl, rfl, by omega, by omega, by rw [show (0 : Int).toNat = 0 from rfl, Int.pow_zero, Int.mul_one], by omega⟩
      · rintro k σ M' N2 ⟨m', t', rfl, rfl, rfl, m0', t0', hm', mt'⟩ hN2
        walk_at "sl"
        refine x_brn (fun h2 => ?_) fun h2 => ?_
        · walk_at "sl"
          obtain ⟨c, hc⟩ := Int.dvd_of_emod_eq_zero h2
          have hc2 : m' / a = c := by rw [hc]; exact Int.mul_ediv_cancel_left c (by omega)
          have c0 : 1 ≤ c := by
            rcases Int.lt_or_le 0 c with h | h
            · omega
            · have : a * c ≤ a * 0 := Int.mul_le_mul_of_nonneg_left h (by omega)
              omega
          have c1 : 2 * c ≤ a * c := Int.mul_le_mul_of_nonneg_right a0 (by omega)
          rw [hc2]
          refine hN2 c.toNat _ _ (by omega) ⟨c, t' + 1, rfl, rfl, rfl, c0, by omega, ?_, by omega⟩
          rw [show (t' + 1).toNat = t'.toNat + 1 by omega, Int.pow_succ, ← hm', hc, Int.mul_comm a c, Int.mul_assoc, Int.mul_comm a, ← Int.mul_assoc]
        · have nd : ∀ k : Int, 2 ≤ k → k < a + 1 → ¬ m' % k = 0 := by
            intro k k0 k1 hk
            by_cases e : k = a
            · subst e; exact h2 hk
            · refine am k k0 (by omega) ?_
              rw [← hm']
              exact Int.emod_eq_zero_of_dvd (Int.dvd_mul_of_dvd_left (Int.dvd_of_emod_eq_zero hk))
          walk_at "sl"
          refine x_brn (fun h3 => ?_) fun h3 => ?_
          · walk_at "sl"
            refine x_append (lst_end _ _) (by rw [List.length_map]; unfold lim; omega) ?_
            rw [set_end]
            walk_at "sl"
            have ev : prodP (ps ++ [(a, t')]) * m' = v := by
              rw [prodP_append, prodP, prodP, Int.mul_one, Int.mul_assoc, Int.mul_comm _ m', hm', pr]
            refine hN (v + 2 - (a + 1)).toNat _ _ (by omega) ⟨m', a + 1, _, ps ++ [(a, t')], rfl, by rw [List.map_append]; rfl, rfl, by omega, m0', by omega, ev, ?_, by omega, nd, ?_, ?_, ?_⟩
            · rcases Int.lt_or_le m' (a + 1) with c | c
              · refine .inl ?_
                rcases Int.lt_or_le 1 m' with c1 | c1
                · exact absurd (Int.emod_self) (nd m' (by omega) c)
                · omega
              · exact .inr c
            · intro p hp
              rcases List.mem_append.mp hp with hp | hp
              · have := hps p hp
                exact ⟨this.1, by omega, this.2.2⟩
              · rw [List.mem_singleton.mp hp]
                have ad : m % a = 0 := by
                  rw [← hm', show t'.toNat = (t' - 1).toNat + 1 by omega, Int.pow_succ, ← Int.mul_assoc]
                  exact Int.mul_emod_left _ _
                refine ⟨⟨a0, fun k k0 k1 hk => am k k0 k1 ?_⟩, by show a < a + 1; omega, by show 1 ≤ t'; omega, by show t' ≤ v; omega, ?_⟩
                · exact Int.emod_eq_zero_of_dvd (Int.dvd_trans (Int.dvd_of_emod_eq_zero hk) (Int.dvd_of_emod_eq_zero ad))
                · show v % a = 0
                  rw [← pr]
                  exact Int.emod_eq_zero_of_dvd (Int.dvd_mul_of_dvd_right (Int.dvd_of_emod_eq_zero ad))
            · rw [List.pairwise_append]
              exact ⟨up, List.pairwise_singleton _ _, fun x hx y hy => by rw [List.mem_singleton.mp hy]; exact (hps x hx).2.1⟩
            · rw [List.length_append]
              show ((ps.length + 1 : Nat) : Int) + 2 ≤ a + 1
              omega
          · walk_at "sl"
            have t0 : t' = 0 := by omega
            subst t0
            rw [show (0 : Int).toNat = 0 from rfl, Int.pow_zero, Int.mul_one] at hm'
            subst hm'
            refine hN (v + 2 - (a + 1)).toNat _ _ (by omega) ⟨m', a + 1, _, ps, rfl, rfl, rfl, by omega, m0', m1, pr, ?_, by omega, nd, fun p hp => ?_, up, by omega⟩
            · rcases Int.lt_or_le m' (a + 1) with c | c
              · exact absurd (Int.emod_self) (nd m' (by omega) c)
              · exact .inr c
            · have := hps p hp
              exact ⟨this.1, by omega, this.2.2⟩
    · walk_at "sl"
      have em : m = 1 := by omega
      subst em
      rw [Int.mul_one] at pr
      exact q ps _ (Gr.app _ _) ⟨fun p hp => (hps p hp).1, fun p hp => ⟨(hps p hp).2.2.1, (hps p hp).2.2.2.1⟩, fun p hp => (hps p hp).2.2.2.2, up, pr⟩

theorem lprime_row_ok {n : Nat} {p c : Int} {M : MS} {Q : VQ} {E : XQ} (hp : Pri p) (h4 : p < 402) (c0 : 0 ≤ c) (q : ∀ d M', Gr M M' → GR p d → Q d M') : wF PP (n + 3) 110 [.int p, .int c] M Q E := by
  have p2 := hp.1
  refine wF_call rfl rfl ?_
  dsimp only [d__law_prime_row]
  walk_at "in"
  walk_at "sl"
  refine x_brn (fun h => ?_) fun h => ?_
  · subst h
    walk_at "sl"
    exact q _ _ (Gr.refl _) .first
  walk_at "sl"
  refine lfactors_ok (by omega) (by omega) fun ps M1 g1 hf => ?_
  walk_at "sl"
  obtain ⟨r, r1, r2, r3, r4⟩ := root_of hp h4
  have x0 := Int.emod_nonneg c (show p - 1 ≠ 0 by omega)
  have x1 := Int.emod_lt_of_pos c (show 0 < p - 1 by omega)
  refine whl_inv (fun k σ M' => ∃ b : Int, σ = [some (.int p), some (.int c), some (.tup (ps.map pairD)), some (.int b)] ∧ Gr M M' ∧ 1 ≤ b ∧ b < p ∧ k = (if b ≤ r then r - b else r - b + (p - 1)).toNat) (k := _) ⟨1 + c % (p - 1), rfl, g1, by omega, by omega, rfl⟩ ?_
  rintro k σ M' N ⟨b, rfl, g, b0, b1, rfl⟩ hN
  have hfs : ∀ x ∈ ps, 2 ≤ x.1 ∧ x.1 < 2 ^ 190 := fun x hx => ⟨(hf.pri x hx).1, by have := dvd_le (hf.dvd x hx) (by omega); omega⟩
  walk_at "sl"
  refine lround_ok p2 (by omega) (by omega) (by omega) hfs fun k M2 g2 hk hk' => ?_
  walk_at "sl"
  refine x_brnB (fun e => ?_) fun e => ?_
  · walk_at "sl"
    have hbr : b ≠ r := by
      intro z
      subst z
      have : k = true := hk' ⟨r3, fun x hx => r4 _ (hf.pri x hx) (hf.dvd x hx)⟩
      rw [this] at e
      cases e
    by_cases hb : b = p - 1
    · have e1 : b % (p - 1) = 0 := by rw [hb]; exact Int.emod_self
      rw [e1]
      exact hN _ _ _ (by split <;> split <;> omega) ⟨0 + 1, rfl, g.trans g2, by omega, by omega, rfl⟩
    · have e1 : b % (p - 1) = b := Int.emod_eq_of_lt (by omega) (by omega)
      rw [e1]
      exact hN _ _ _ (by split <;> split <;> omega) ⟨b + 1, rfl, g.trans g2, by omega, by omega, rfl⟩
  · walk_at "sl"
    exact q _ _ (g.trans g2) (.prime hp (by omega) h4 b0 b1 hf (hk (nf e)))

theorem lparted_row_ok {n : Nat} {v c : Int} {M : MS} {Q : VQ} {E : XQ} (v2 : 2 ≤ v) (hp : ¬ Pri v) (h4 : v < 20000) (c0 : 0 ≤ c) (q : ∀ d M', Gr M M' → GR v d → Q d M') : wF PP (n + 2) 111 [.int v, .int c] M Q E := by
  obtain ⟨u, u2, u1, u0⟩ := not_pri v2 hp
  refine wF_call rfl rfl ?_
  dsimp only [d__law_parted_row]
  walk_at "in"
  walk_at "sl"
  walk_at "in"
  refine turns_map (h := .free) (fun d => decide (v % intOf d = 0)) id trivial _ _ (by rw [List.length_nil, rng_len]; unfold lim; omega) ?_ ?_
  · intro d hd
    obtain ⟨i, rfl, i0, i1⟩ := rng_mem.mp hd
    refine ⟨_, rfl, fun R r => ?_, fun _ R r => ?_⟩
    · walk_at "sl"
      exact r
    · walk_at "sl"
      exact r
  walk_at "in"
  obtain ⟨ps, hps⟩ : ∃ ps, ((rng 2 v).filter fun d => decide (v % intOf d = 0)).map id = ps := ⟨_, rfl⟩
  have pm : ∀ d ∈ ps, ∃ a : Int, d = .int a ∧ 2 ≤ a ∧ a < v ∧ v % a = 0 := by
    intro d hd
    rw [← hps, List.map_id] at hd
    obtain ⟨h1, h2⟩ := List.mem_filter.mp hd
    obtain ⟨i, rfl, i0, i1⟩ := rng_mem.mp h1
    exact ⟨i, rfl, i0, i1, of_decide_eq_true h2⟩
  have p0 : (0 : Int) < ps.length := by
    have : D.int u ∈ ps := by
      rw [← hps, List.map_id]
      exact List.mem_filter.mpr ⟨rng_mem.mpr ⟨u, rfl, u2, u1⟩, decide_eq_true u0⟩
    have := List.length_pos_of_mem this
    omega
  rw [hps]
  clear hps
  walk_at "sl"
  walk_at "in"
  refine turns_map (h := .free) (fun d => decide (intOf d * intOf d % v = 1)) id trivial _ _ (by rw [List.length_nil, rng_len]; unfold lim; omega) ?_ ?_
  · intro d hd
    obtain ⟨i, rfl, i0, i1⟩ := rng_mem.mp hd
    refine ⟨_, rfl, fun R r => ?_, fun _ R r => ?_⟩
    · walk_at "sl"
      exact r
    · walk_at "sl"
      exact r
  walk_at "in"
  obtain ⟨rs, hrs⟩ : ∃ rs, ((rng 2 (v - 1)).filter fun d => decide (intOf d * intOf d % v = 1)).map id = rs := ⟨_, rfl⟩
  have rm : ∀ d ∈ rs, ∃ a : Int, d = .int a ∧ 2 ≤ a ∧ a < v - 1 ∧ a * a % v = 1 := by
    intro d hd
    rw [← hrs, List.map_id] at hd
    obtain ⟨h1, h2⟩ := List.mem_filter.mp hd
    obtain ⟨i, rfl, i0, i1⟩ := rng_mem.mp h1
    exact ⟨i, rfl, i0, i1, of_decide_eq_true h2⟩
  rw [hrs]
  clear hrs
  obtain ⟨uu, uv⟩ := mul_of_dvd u2 u1 u0
  have vb : v ≤ 10 ^ 30 - 1000 := by omega
  have x0 := Int.emod_nonneg (c / 4) (show (ps.length : Int) ≠ 0 by omega)
  have x1 := Int.emod_lt_of_pos (c / 4) p0
  walk_at "sl"
  walk_at "pi"
  intro d hd
  obtain ⟨a, rfl, a0, a1, a2⟩ := pm d hd
  obtain ⟨w0, w1⟩ := mul_of_dvd a0 a1 a2
  walk_at "sl"
  refine x_dup ?_ fun e4 fin => ?_
  · walk_at "sl"
    refine x_brn (fun e5 => ?_) fun e5 => ?_
    · walk_at "sl"
      exact q _ _ (by walk_at "gr") (.split a0 w0 w1 vb)
    · have y0 := Int.emod_nonneg (c / 4) (show v - 1 ≠ 0 by omega)
      have y1 := Int.emod_lt_of_pos (c / 4) (show 0 < v - 1 by omega)
      walk_at "sl"
      refine whl_inv (fun k σ M' => ∃ b : Int, σ = [some (.int v), some (.int c), some (.ref M.length), none, some (.ref (M ++ [MO.lst ps]).length), some (.int a), some (.int b)] ∧ Gr M M' ∧ 1 ≤ b ∧ b < v ∧ k = (if b ≤ u then u - b else u - b + (v - 1)).toNat) (k := _) ⟨1 + c / 4 % (v - 1), rfl, by walk_at "gr", by omega, by omega, rfl⟩ ?_
      rintro k σ M' N ⟨b, rfl, g, b0, b1, rfl⟩ hN
      walk_at "sl"
      refine lpower_ok (by omega) (Sm.of_nat 64 (by omega) (by decide)) (Sm.of_nat 64 (by omega) (by decide)) (by omega) (by omega) fun M2 g2 => ?_
      walk_at "sl"
      refine x_brn (fun e => ?_) fun e => ?_
      · walk_at "sl"
        have hbr : b ≠ u := fun z => by subst z; exact part_pow u2 u0 (by omega) e
        by_cases hb : b = v - 1
        · have e1 : b % (v - 1) = 0 := by rw [hb]; exact Int.emod_self
          rw [e1]
          exact hN _ _ _ (by split <;> split <;> omega) ⟨0 + 1, rfl, g.trans g2, by omega, by omega, rfl⟩
        · have e1 : b % (v - 1) = b := Int.emod_eq_of_lt (by omega) (by omega)
          rw [e1]
          exact hN _ _ _ (by split <;> split <;> omega) ⟨b + 1, rfl, g.trans g2, by omega, by omega, rfl⟩
      · walk_at "sl"
        exact q _ _ (g.trans g2) (.power u2 uu uv vb b0 b1 e)
  · walk_at "sl"
    refine x_brn (fun e5 => ?_) fun e5 => fin
    have z0 := Int.emod_nonneg (c / 4) (show (rs.length : Int) ≠ 0 by omega)
    have z1 := Int.emod_lt_of_pos (c / 4) e5
    walk_at "sl"
    walk_at "pi"
    intro d hd
    obtain ⟨b, rfl, b0, b1, b2⟩ := rm d hd
    walk_at "sl"
    exact q _ _ (by walk_at "gr") (.root u2 uu uv vb (by omega) b1 b2)

theorem lbig_row_ok {n : Nat} {c : Int} {M : MS} {Q : VQ} {E : XQ} (c0 : 0 ≤ c) (q : ∀ p d M', Gr M M' → GR p d → Q d M') : wF PP (n + 2) 112 [.int c] M Q E := by
  refine wF_call rfl rfl ?_
  dsimp only [d__law_big_row]
  walk_at "in"
  walk_at "sl"
  walk_at "in"
  walk_at "pk"
  · walk_at "sl"
    walk_at "pk"
    all_goals
      walk_at "sl"
      refine lpower_ok (by decide) (Sm.of_nat 64 (by decide) (by decide)) (Sm.of_nat 64 (by decide) (by decide)) (by decide) (by decide) fun M2 g2 => ?_
      walk_at "sl"
      exact q _ _ _ (Gr.trans (by walk_at "gr") g2) (.big (p := 65537) (b := 3) (ps := [(2, 16)]) (by simp [bigs]) (by decide))
  · walk_at "sl"
    walk_at "pk"
    all_goals
      walk_at "sl"
      refine lpower_ok (by decide) (Sm.of_nat 64 (by decide) (by decide)) (Sm.of_nat 64 (by decide) (by decide)) (by decide) (by decide) fun M2 g2 => ?_
      walk_at "sl"
      exact q _ _ _ (Gr.trans (by walk_at "gr") g2) (.big (p := 998244353) (b := 3) (ps := [(2, 23), (7, 1), (17, 1)]) (by simp [bigs]) (by decide))
  · walk_at "sl"
    walk_at "pk"
    all_goals
      walk_at "sl"
      refine lpower_ok (by decide) (Sm.of_nat 64 (by decide) (by decide)) (Sm.of_nat 64 (by decide) (by decide)) (by decide) (by decide) fun M2 g2 => ?_
      walk_at "sl"
      exact q _ _ _ (Gr.trans (by walk_at "gr") g2) (.big (p := 2013265921) (b := 31) (ps := [(2, 27), (3, 1), (5, 1)]) (by simp [bigs]) (by decide))
  · walk_at "sl"
    walk_at "pk"
    all_goals
      walk_at "sl"
      refine lpower_ok (by decide) (Sm.of_nat 64 (by decide) (by decide)) (Sm.of_nat 64 (by decide) (by decide)) (by decide) (by decide) fun M2 g2 => ?_
      walk_at "sl"
      exact q _ _ _ (Gr.trans (by walk_at "gr") g2) (.big (p := 4179340454199820289) (b := 3) (ps := [(2, 57), (29, 1)]) (by simp [bigs]) (by decide))
theorem lgreat_row_ok {n : Nat} {c m : Int} {M : MS} {Q : VQ} {E : XQ} (c0 : 0 ≤ c) (c1 : c < 4294967296) (m0 : 0 ≤ m) (m1 : m < 4294967296) (q : ∀ p d, GR p d → needs d = [] → Q d M) : wF PP (n + 1) 113 [.int c, .int m] M Q E := by
  have a0 := Int.emod_nonneg (c * 2147483647 + m) (show (10 : Int) ^ 15 ≠ 0 by decide)
  have a1 := Int.emod_lt_of_pos (c * 2147483647 + m) (show 0 < (10 : Int) ^ 15 by decide)
  have b0 := Int.emod_nonneg (m * 2147483647 + c) (show (10 : Int) ^ 15 - 9 ≠ 0 by decide)
  have b1 := Int.emod_lt_of_pos (m * 2147483647 + c) (show 0 < (10 : Int) ^ 15 - 9 by decide)
  have fin : ∀ a b : Int, 2 ≤ a → a < 2 + 10 ^ 15 → 2 ≤ b → b < 10 ^ 15 - 7 → 2 * a ≤ a * b ∧ a * b ≤ 10 ^ 30 - 1000 ∧ 4 ≤ a * b := by
    intro a b x0 x1 y0 y1
    have h1 : a * 2 ≤ a * b := Int.mul_le_mul_of_nonneg_left y0 (by omega)
    have h2 : a * b ≤ (10 ^ 15 + 1) * b := Int.mul_le_mul_of_nonneg_right (by omega) (by omega)
    omega
  refine wF_call rfl rfl ?_
  dsimp only [d__law_great_row]
  walk_at "in"
  walk_at "sl"
  rw [show (10 : Int) ^ (15 : Int).toNat = 10 ^ 15 from rfl]
  obtain ⟨a, ha⟩ : ∃ a, 2 + (c * 2147483647 + m) % 10 ^ 15 = a := ⟨_, rfl⟩
  obtain ⟨b, hb⟩ : ∃ b, 2 + (m * 2147483647 + c) % (10 ^ 15 - 9) = b := ⟨_, rfl⟩
  have x0 : 2 ≤ a := by omega
  have x1 : a < 2 + 10 ^ 15 := by omega
  have y0 : 2 ≤ b := by omega
  have y1 : b < 10 ^ 15 - 7 := by omega
  rw [ha]
  walk_at "sl"
  rw [hb]
  clear ha hb a0 a1 b0 b1
  obtain ⟨f1, f2, f3⟩ := fin a b x0 x1 y0 y1
  refine x_brn (fun h => ?_) fun h => ?_
  · walk_at "sl"
    exact q _ _ (.split x0 y0 rfl f2) rfl
  walk_at "sl"
  refine x_brn (fun h => ?_) fun h => ?_
  · walk_at "sl"
    exact q _ _ (.power x0 y0 rfl f2 (by omega) (by omega) (part_pow x0 (Int.mul_emod_right a b) (by omega))) rfl
  · walk_at "sl"
    obtain ⟨g1, g2, g3⟩ := fin (b + 2) b (by omega) (by omega) y0 y1
    obtain ⟨n1, hn1⟩ : ∃ n1, (b + 1) * (b + 1) - 1 = n1 := ⟨_, rfl⟩
    have e : (b + 2) * b = n1 := by rw [← hn1, Int.mul_add, Int.add_mul, Int.add_mul]; omega
    have e2 : (b + 1) * (b + 1) = 1 + n1 * 1 := by omega
    rw [hn1]
    refine q _ _ (.root (show 2 ≤ b + 2 by omega) y0 e (by omega) (by omega) (by omega) ?_) rfl
    rw [e2, Int.add_mul_emod_self_left]
    exact Int.emod_eq_of_lt (by decide) (by omega)

theorem lneeds_ok {n : Nat} {p : Int} {d : D} {M : MS} {Q : VQ} {E : XQ} (g : GR p d) (q : Q (.ref M.length) (M ++ [.lst ((needs d).map .int)])) : wF PP (n + 1) 114 [d] M Q E := by
  have other : ∀ {p : Int} {w : List Nat} {fs : List D}, ¬ w = sPrime → Q (.ref M.length) (M ++ [.lst []]) → wF PP (n + 1) 114 [.tup [.int p, .str w, .tup fs]] M Q E := by
    intro p w fs hw q
    refine wF_call rfl rfl ?_
    dsimp only [d__law_needs]
    walk_at "in"
    walk_at "sl"
    refine x_ixT rfl ?_
    walk_at "sl"
    refine x_no hw ?_
    walk_at "sl"
    exact q
  have prime : ∀ {p b : Int} {ps : List (Int × Int)}, ps.length ≤ 1000 → Q (.ref M.length) (M ++ [.lst ((ps.map (·.1)).map .int)]) → wF PP (n + 1) 114 [.tup [.int p, .str sPrime, .tup [.int b, .tup (ps.map pairD)]]] M Q E := by
    intro p b ps hl q
    refine wF_call rfl rfl ?_
    dsimp only [d__law_needs]
    walk_at "in"
    walk_at "sl"
    refine x_ixT rfl ?_
    walk_at "sl"
    refine x_yes rfl ?_
    walk_at "sl"
    refine x_ixT rfl ?_
    walk_at "sl"
    refine x_ixT rfl ?_
    walk_at "sl"
    walk_at "in"
    refine turns_all (h := .free) (fun d => .int (fstI d)) (by rw [List.length_map]; unfold lim; omega) trivial ?_ ?_
    · intro d hd
      obtain ⟨x, hx, rfl⟩ := List.mem_map.mp hd
      refine ⟨_, rfl, fun R r => by walk_at "sl"; exact r, fun R r => ?_⟩
      walk_at "sl"
      exact r
    · rw [List.map_map] at q ⊢
      exact q
  cases g with
  | first => exact other (by decide) q
  | @prime p b ps hp h3 h4 b1 b2 f r =>
    rw [needs_prime] at q
    have := (gr_needs (.prime hp h3 h4 b1 b2 f r)).2
    rw [needs_prime, List.length_map] at this
    exact prime (by omega) q
  | @big p b ps e hb he =>
    rw [needs_prime] at q
    have := (gr_needs (.big (e := e) hb he)).2
    rw [needs_prime, List.length_map] at this
    exact prime (by omega) q
  | split => exact other (by decide) q
  | power => exact other (by decide) q
  | root => exact other (by decide) q

/-- what closed keeps: ks the numbers that have rows, ws the ones that wait, src where numbers come from -/
structure Clo (W : Prop) (G : Int → D → Prop) (src : List Int) (kvs : List (Int × D)) (ws : List Int) : Prop where
  nd : (kvs.map (·.1)).Nodup
  gr : ∀ p ∈ kvs, G p.1 p.2
  need : W → ∀ p ∈ kvs, ∀ q ∈ needs p.2, q ∈ kvs.map (·.1) ∨ q ∈ ws
  small : ∀ w ∈ ws, 2 ≤ w ∧ w < 20000 ∧ (Pri w → w < 402)
  from_ : ∀ w, w ∈ kvs.map (·.1) ∨ w ∈ ws → w ∈ src ∨ Pri w ∧ w < 200
  all : ∀ w ∈ src, w ∈ kvs.map (·.1) ∨ w ∈ ws
  len : ws.length + 400 * freeN src kvs ≤ 900000
  len2 : kvs.length + freeN src kvs ≤ 5000
theorem lclosed_ok {n : Nat} {dI wI cI : Nat} {kvs : List (Int × D)} {ws cs src : List Int} {W : Prop} {G : Int → D → Prop} {M : MS} {Q : VQ} {E : XQ} (hG : ∀ p d, GR p d → G p d) (hd : M[dI]? = some (.dict kvs)) (hw : M[wI]? = some (.lst (ws.map .int))) (hc : M[cI]? = some (.lst (cs.map .int))) (hcw : cI ≠ wI)
    (hcl : 0 < cs.length) (hcs : ∀ c ∈ cs, 0 ≤ c) (clo : Clo W G src kvs ws)
    (q : ∀ (kvs' : List (Int × D)) (ks : List Int) (f : Int → D) (m : Nat) (M' : MS), Clo W G src kvs' [] → M'[dI]? = some (.dict kvs') → M'[wI]? = some (.lst []) → ks.Perm (kvs'.map (·.1)) → (∀ k o, M[k]? = some o → k ≠ dI → k ≠ wI → M'[k]? = some o) → M'[m]? = some (.lst (ks.map f)) → M.length ≤ m → ks.Pairwise (· < ·) → (∀ k ∈ ks, G k (f k)) → (W → ∀ k ∈ ks, ∀ r ∈ needs (f k), r ∈ ks) →
      (∀ k ∈ ks, k ∈ src ∨ Pri k ∧ k < 200) → (∀ k ∈ src, k ∈ ks) → Q (.ref m) M') : wF PP (n + 4) 115 [.ref dI, .ref wI, .ref cI] M Q E := by
  have hdw : dI ≠ wI := fun e => by subst e; rw [hd] at hw; cases hw
  have hcd : cI ≠ dI := fun e => by subst e; rw [hd] at hc; cases hc
  refine wF_call rfl rfl ?_
  dsimp only [d__law_closed]
  walk_at "in"
  walk_at "sl"
  refine whl_inv (fun k σ M' => ∃ (kvs : List (Int × D)) (ws : List Int) (y z : Option D), σ = [some (.ref dI), some (.ref wI), some (.ref cI), y, z, none] ∧ M.length ≤ M'.length ∧ (∀ k o, M[k]? = some o → k ≠ dI → k ≠ wI → M'[k]? = some o) ∧ M'[dI]? = some (.dict kvs) ∧ M'[wI]? = some (.lst (ws.map .int)) ∧
      Clo W G src kvs ws ∧ k = ws.length + 400 * freeN src kvs) (k := _) ⟨kvs, ws, none, none, rfl, Nat.le_refl _, fun _ _ h _ _ => h, hd, hw, clo, rfl⟩ ?_
  rintro k σ M' N ⟨kvs, ws, y, z, rfl, hml, hkeep, hd, hw, clo, rfl⟩ hN
  have hcM := hkeep _ _ hc hcd hcw
  walk_at "sl"
  refine x_brn (fun h1 => ?_) fun h1 => ?_
  · rw [List.length_map] at h1
    obtain ⟨ws, w, rfl⟩ : ∃ ws' w, ws = ws' ++ [w] := by
      rcases List.eq_nil_or_concat ws with e | ⟨l, a, e⟩
      · subst e; simp at h1
      · exact ⟨l, a, by rw [e, List.concat_eq_append]⟩
    obtain ⟨w2, w4, w5⟩ := clo.small w (by simp)
    rw [List.map_append] at hw
    walk_at "sl"
    refine x_pop hw ?_
    have hw2 : (M'.set wI (.lst (ws.map .int)))[wI]? = some (.lst (ws.map .int)) := set_same hw
    have hd2 : (M'.set wI (.lst (ws.map .int)))[dI]? = some (.dict kvs) := set_other hd hdw.symm
    have hc2 : (M'.set wI (.lst (ws.map .int)))[cI]? = some (.lst (cs.map .int)) := set_other hcM hcw.symm
    have hk2 : ∀ k o, M[k]? = some o → k ≠ dI → k ≠ wI → (M'.set wI (.lst (ws.map .int)))[k]? = some o := fun k o e n1 n2 => set_other (hkeep k o e n1 n2) (Ne.symm n2)
    have hm2 : M.length ≤ (M'.set wI (.lst (ws.map .int))).length := by rw [List.length_set]; exact hml
    have cl2 := clo.len
    rw [List.length_append] at cl2
    replace cl2 : ws.length + 1 + 400 * freeN src kvs ≤ 900000 := cl2
    generalize M'.set wI (.lst (ws.map .int)) = M2 at *
    walk_at "sl"
    cases hg : dget kvs w with
    | some d =>
      refine x_isF rfl ?_
      refine x_skip (hN (ws.length + 400 * freeN src kvs) _ _ (by rw [List.length_append]; show _ < ws.length + 1 + _; omega) ⟨kvs, ws, _, _, rfl, hm2, hk2, hd2, hw2, ⟨clo.nd, clo.gr, fun W p hp q hq => ?_, fun w hw => clo.small w (by simp [hw]), fun v hv => clo.from_ v (by rcases hv with h | h <;> simp [h]), fun v hv => ?_, by omega, clo.len2⟩, rfl⟩)
      · have wk : w ∈ kvs.map (·.1) := List.mem_map.mpr ⟨_, dget_mem hg, rfl⟩
        rcases clo.need W p hp q hq with h | h
        · exact .inl h
        · rcases List.mem_append.mp h with h | h
          · exact .inr h
          · rw [List.mem_singleton.mp h]; exact .inl wk
      · have wk : w ∈ kvs.map (·.1) := List.mem_map.mpr ⟨_, dget_mem hg, rfl⟩
        rcases clo.all v hv with h | h
        · exact .inl h
        · rcases List.mem_append.mp h with h | h
          · exact .inr h
          · rw [List.mem_singleton.mp h]; exact .inl wk
    | none =>
      refine x_isT rfl ?_
      have i0 := Int.emod_nonneg (w + (kvs.length : Int)) (show (cs.length : Int) ≠ 0 by omega)
      have i1 := Int.emod_lt_of_pos (w + (kvs.length : Int)) (show (0 : Int) < cs.length by omega)
      walk_at "sl"
      rw [List.length_map]
      walk_at "sl"
      have hce : 0 ≤ ce cs ((w + (kvs.length : Int)) % (cs.length : Int)) := ce_mem hcs (Int.le_refl 0) _
      refine lis_prime_ok (by omega) fun b hb1 hb2 => ?_
      have hcl2 := clo.len2
      refine x_joinB (fun σ' M' => ∃ d M3, Gr M2 M3 ∧ GR w d ∧ M' = M3.set dI (.dict (kvs ++ [(w, d)])) ∧ σ' = [some (.ref dI), some (.ref wI), some (.ref cI), some (.int w), some (.int (ce cs ((w + (kvs.length : Int)) % (cs.length : Int)))), none]) ?_ fun hJ => ?_
      · rintro σ' M' ⟨d, M3, g3, gd, rfl, rfl⟩
        have hd3 : (M3.set dI (.dict (kvs ++ [(w, d)])))[dI]? = some (.dict (kvs ++ [(w, d)])) := set_same (g3 _ _ hd2)
        have hw3 : (M3.set dI (.dict (kvs ++ [(w, d)])))[wI]? = some (.lst (ws.map .int)) := set_other (g3 _ _ hw2) hdw
        have hk3 : ∀ k o, M[k]? = some o → k ≠ dI → k ≠ wI → (M3.set dI (.dict (kvs ++ [(w, d)])))[k]? = some o := fun k o e n1 n2 => set_other (g3 _ _ (hk2 k o e n1 n2)) (Ne.symm n1)
        have hm3 : M.length ≤ (M3.set dI (.dict (kvs ++ [(w, d)]))).length := by rw [List.length_set]; exact Nat.le_trans hm2 g3.len
        generalize M3.set dI (.dict (kvs ++ [(w, d)])) = M4 at *
        obtain ⟨nd1, nd2⟩ := gr_needs gd
        walk_at "sl"
        refine x_ixD hd3 (by rw [dget_app hg, if_pos rfl]) ?_
        walk_at "sl"
        refine lneeds_ok gd ?_
        walk_at "sl"
        refine x_extend (Gr.app _ _ _ _ hw3) (lst_end _ _) (by rw [List.length_map, List.length_map]; unfold lim; omega) ?_
        rw [← List.map_append]
        have hsrc : w ∈ src ∨ 0 ≤ w ∧ w < 200 := (clo.from_ w (.inr (by simp))).imp id fun h => ⟨by omega, h.2⟩
        have hf := freeN_app (src := src) (d := d) hg hsrc
        have keys : (kvs ++ [(w, d)]).map (·.1) = kvs.map (·.1) ++ [w] := by rw [List.map_append]; rfl
        have wn : w ∉ kvs.map (·.1) := fun z => by
          obtain ⟨p, hp, e⟩ := List.mem_map.mp z
          exact dget_none.mp hg p hp e
        refine hN ((ws ++ needs d).length + 400 * freeN src (kvs ++ [(w, d)])) _ _ (by rw [List.length_append, List.length_append]; show _ < ws.length + 1 + _; omega) ⟨kvs ++ [(w, d)], ws ++ needs d, _, _, rfl, by rw [List.length_set, List.length_append]; omega, fun k o e n1 n2 => set_other (Gr.app _ _ _ _ (hk3 k o e n1 n2)) (Ne.symm n2),
          set_other (Gr.app _ _ _ _ hd3) hdw.symm, set_same (Gr.app _ _ _ _ hw3), ⟨?_, ?_, ?_, ?_, ?_, ?_, ?_, ?_⟩, rfl⟩
        · rw [keys, List.nodup_append]
          exact ⟨clo.nd, List.nodup_cons.mpr ⟨fun h => (nomatch h), List.nodup_nil⟩, fun a ha b hb e => by rw [List.mem_singleton.mp hb] at e; subst e; exact wn ha⟩
        · intro p hp
          rcases List.mem_append.mp hp with h | h
          · exact clo.gr p h
          · rw [List.mem_singleton.mp h]; exact hG _ _ gd
        · intro W p hp r hr
          rw [keys]
          rcases List.mem_append.mp hp with h | h
          · rcases clo.need W p h r hr with h | h
            · exact .inl (List.mem_append_left _ h)
            · rcases List.mem_append.mp h with h | h
              · exact .inr (List.mem_append_left _ h)
              · exact .inl (List.mem_append_right _ h)
          · rw [List.mem_singleton.mp h] at hr
            exact .inr (List.mem_append_right _ hr)
        · intro v hv
          rcases List.mem_append.mp hv with h | h
          · exact clo.small v (List.mem_append_left _ h)
          · have := nd1 v h
            exact ⟨this.1.1, by omega, fun _ => by omega⟩
        · intro v hv
          rw [keys] at hv
          rcases hv with h | h
          · rcases List.mem_append.mp h with h | h
            · exact clo.from_ v (.inl h)
            · exact clo.from_ v (.inr (List.mem_append_right _ h))
          · rcases List.mem_append.mp h with h | h
            · exact clo.from_ v (.inr (List.mem_append_left _ h))
            · exact .inr (nd1 v h)
        · intro v hv
          rw [keys]
          rcases clo.all v hv with h | h
          · exact .inl (List.mem_append_left _ h)
          · rcases List.mem_append.mp h with h | h
            · exact .inr (List.mem_append_left _ h)
            · exact .inl (List.mem_append_right _ h)
        · rw [List.length_append]
          omega
        · rw [List.length_append]
          show kvs.length + 1 + _ ≤ 5000
          omega
      · refine x_brnB (fun e => ?_) fun e => ?_
        · walk_at "sl"
          refine lprime_row_ok (hb1 e) (w5 (hb1 e)) hce fun d M3 g3 gd => ?_
          walk_at "sl"
          refine x_putD (g3 _ _ hd2) (by unfold lim; omega) ?_
          rw [dput_new hg]
          exact hJ _ _ ⟨d, M3, g3, gd, rfl, rfl⟩
        · walk_at "sl"
          refine lparted_row_ok w2 (fun z => by rw [hb2 z] at e; cases e) w4 hce fun d M3 g3 gd => ?_
          walk_at "sl"
          refine x_putD (g3 _ _ hd2) (by unfold lim; omega) ?_
          rw [dput_new hg]
          exact hJ _ _ ⟨d, M3, g3, gd, rfl, rfl⟩
  · rw [List.length_map] at h1
    have e : ws = [] := by
      cases ws with
      | nil => rfl
      | cons a r => rw [List.length_cons] at h1; omega
    subst e
    walk_at "sl"
    refine x_sortD hd fun ks hperm hsort => ?_
    walk_at "sl"
    have hmem : ∀ k, k ∈ ks ↔ k ∈ kvs.map (·.1) := fun k => hperm.mem_iff
    have hl2 := clo.len2
    have hkl : ks.length = kvs.length := by rw [hperm.length_eq, List.length_map]
    walk_at "in"
    refine turns_all (fun d => (dget kvs (intOf d)).getD .non) (by rw [List.length_map]; unfold lim; omega) (lst_end _ _) ?_ ?_
    · intro d hd'
      obtain ⟨k, hk, rfl⟩ := List.mem_map.mp hd'
      obtain ⟨r, hr, _⟩ := dget_in ((hmem k).mp hk)
      refine ⟨_, rfl, fun R r => by walk_at "sl"; exact r, fun R r' => ?_⟩
      walk_at "sl"
      refine x_ixD (Gr.app _ _ _ _ hd) hr ?_
      show R r _
      have e : (dget kvs (intOf (.int k))).getD .non = r := by
        show (dget kvs k).getD .non = r
        rw [hr]
        rfl
      rw [e] at r'
      exact r'
    · rw [List.map_map]
      have get : ∀ k ∈ ks, (k, ((fun d => (dget kvs (intOf d)).getD .non) ∘ D.int) k) ∈ kvs := by
        intro k hk
        obtain ⟨r, hr, hm⟩ := dget_in ((hmem k).mp hk)
        show (k, (dget kvs k).getD .non) ∈ kvs
        rw [hr]
        exact hm
      refine q kvs ks _ _ _ clo (Gr.app _ _ _ _ (Gr.app _ _ _ _ hd)) (Gr.app _ _ _ _ (Gr.app _ _ _ _ hw)) hperm (fun k o e n1 n2 => Gr.app _ _ _ _ (Gr.app _ _ _ _ (hkeep k o e n1 n2))) (lst_end _ _) (by rw [List.length_append]; omega) ?_ (fun k hk => clo.gr _ (get k hk)) ?_ ?_ ?_
      · have nd : ks.Nodup := hperm.nodup_iff.mpr clo.nd
        exact (hsort.and nd).imp fun {a b} h => by have := h.1; have := h.2; omega
      · intro W k hk r hr
        rcases clo.need W _ (get k hk) r hr with h | h
        · exact (hmem r).mpr h
        · cases h
      · intro k hk
        exact clo.from_ k (.inl ((hmem k).mp hk))
      · intro k hk
        rcases clo.all k hk with h | h
        · exact (hmem k).mpr h
        · cases h

theorem gr_head {p : Int} {d : D} (g : GR p d) : ∃ w fs, d = .tup [.int p, .str w, fs] := by cases g <;> exact ⟨_, _, rfl⟩
theorem clo_put {ws ws' : List Int} {kvs : List (Int × D)} {p : Int} {d : D} (clo : Clo True GR (ws ++ kvs.map (·.1)) kvs ws') (g : GR p d) (hn : needs d = []) (hk : kvs = [] ∨ ∃ x, kvs = [x]) (hl : ws'.length ≤ 405) (hw5 : ws.length ≤ 5) :
    Clo True GR (ws ++ (dput kvs p d).map (·.1)) (dput kvs p d) ws' ∧ (dput kvs p d).length ≤ 2 := by
  have key : (dput kvs p d).length ≤ 2 ∧ ((dput kvs p d).map (·.1)).Nodup ∧ (∀ x ∈ dput kvs p d, x = (p, d) ∨ x ∈ kvs) ∧ ∀ w ∈ kvs.map (·.1), w ∈ (dput kvs p d).map (·.1) := by
    rcases hk with rfl | ⟨⟨p0, d0⟩, rfl⟩
    · exact ⟨Nat.le_of_ble_eq_true rfl, by simp [dput], fun x hx => .inl (by simpa [dput] using hx), fun _ h => (nomatch h)⟩
    · rw [dput_one]
      by_cases e : p0 = p
      · rw [if_pos e]
        exact ⟨Nat.le_of_ble_eq_true rfl, by simp, fun x hx => .inl (by simpa using hx), fun w hw => by simpa [e] using hw⟩
      · rw [if_neg e]
        exact ⟨Nat.le_of_ble_eq_true rfl, by simp [e], fun x hx => by simp at hx; rcases hx with h | h <;> simp [h], fun w hw => by simp at hw; simp [hw]⟩
  obtain ⟨k1, k2, k3, k4⟩ := key
  have hf := freeN_le (ws ++ (dput kvs p d).map (·.1)) (dput kvs p d)
  rw [List.length_append, List.length_map] at hf
  refine ⟨⟨k2, fun x hx => ?_, fun W x hx r hr => ?_, clo.small, fun w hw => ?_, fun w hw => ?_, by omega, by omega⟩, k1⟩
  · rcases k3 x hx with rfl | h
    · exact g
    · exact clo.gr x h
  · rcases k3 x hx with rfl | h
    · rw [hn] at hr; cases hr
    · rcases clo.need W x h r hr with h | h
      · exact .inl (k4 r h)
      · exact .inr h
  · rcases hw with h | h
    · exact .inl (List.mem_append_right _ h)
    · rcases clo.from_ w (.inr h) with h | h
      · rcases List.mem_append.mp h with h | h
        · exact .inl (List.mem_append_left _ h)
        · exact .inl (List.mem_append_right _ (k4 w h))
      · exact .inr h
  · rcases List.mem_append.mp hw with h | h
    · rcases clo.all w (List.mem_append_left _ h) with h | h
      · exact .inl (k4 w h)
      · exact .inr h
    · exact .inl h
theorem lrows_by_ok {n : Nat} {c : Nat} {cs : List Int} {M : MS} {Q : VQ} {E : XQ} (hM : M[c]? = some (.lst (cs.map .int))) (hl : 9 ≤ cs.length) (hc : ∀ c ∈ cs, 0 ≤ c ∧ c < 4294967296)
    (q : ∀ (ks src : List Int) (f : Int → D) (m : Nat) (M' : MS), Gr M M' → M'[m]? = some (.lst (ks.map f)) → M.length ≤ m → ks ≠ [] → ks.Pairwise (· < ·) → (∀ k ∈ ks, GR k (f k)) → (∀ k ∈ ks, ∀ r ∈ needs (f k), r ∈ ks) →
      src.length ≤ 7 → (∀ k ∈ ks, k ∈ src ∨ Pri k ∧ k < 200) → Q (.ref m) M') : wF PP (n + 5) 116 [.ref c] M Q E := by
  have hce : ∀ i, 0 ≤ ce cs i ∧ ce cs i < 4294967296 := fun i => ce_mem hc (by decide) i
  have h0 := hce 0
  have h5 := hce 5
  have h6 := hce 6
  have h7 := hce 7
  have hcl := (List.getElem?_eq_some_iff.mp hM).1
  refine wF_call rfl rfl ?_
  dsimp only [d__law_rows_by]
  walk_at "in"
  walk_at "sl"
  walk_at "in"
  refine wTurns_rng (fun i ys M' => ∃ ws : List Int, ys = ws.map .int ∧ ws.length = i ∧ Gr (M ++ [.dict []]) M' ∧ ∀ w ∈ ws, 2 ≤ w ∧ w < 20000 ∧ (Pri w → w < 402)) ?_ ?_ ⟨[], rfl, rfl, Gr.refl _, fun _ h => (nomatch h)⟩
  · rintro ys M1 ⟨ws, rfl, hwl, g1, hw⟩
    have hM1 := g1 _ _ (Gr.app _ _ _ _ hM)
    have hd1 := g1 _ _ (lst_end M (.dict []))
    have hml := g1.len
    rw [List.length_append] at hml
    replace hml : M.length + 1 ≤ M1.length := hml
    have gM : Gr M M1 := (Gr.app _ _).trans g1
    have w5 : ws.length ≤ 5 := by omega
    have wn : ws ≠ [] := fun e => by subst e; simp at hwl; omega
    have wI : M1.length ≠ M.length := by omega
    walk_at "sl"
    refine x_joinB (fun σ' M' => ∃ y kvs ws', σ' = [some (.ref c), some (.ref M.length), some (.ref M1.length), none, y] ∧ Gr M M' ∧ M1.length < M'.length ∧ M'[M.length]? = some (.dict kvs) ∧ M'[M1.length]? = some (.lst (ws'.map .int)) ∧
        Clo True GR (ws ++ kvs.map (·.1)) kvs ws' ∧ (kvs = [] ∨ ∃ p, kvs = [p]) ∧ ws'.length ≤ 405) ?_ fun hJ => ?_
    · rintro σ' M2 ⟨y, kvs, ws', rfl, g2, hl2, hd2, hw2, clo, hk, hws⟩
      have hM2 := g2 _ _ hM
      walk_at "sl"
      refine x_joinB (fun σ' M' => ∃ y kvs, σ' = [some (.ref c), some (.ref M.length), some (.ref M1.length), none, y] ∧ Gr M M' ∧ M1.length < M'.length ∧ M'[M.length]? = some (.dict kvs) ∧ M'[M1.length]? = some (.lst (ws'.map .int)) ∧
        Clo True GR (ws ++ kvs.map (·.1)) kvs ws' ∧ kvs.length ≤ 2) ?_ fun hK => ?_
      · rintro σ' M3 ⟨y, kvs, rfl, g3, hl3, hd3, hw3, clo, hk⟩
        have hM3 := g3 _ _ hM
        walk_at "sl"
        refine lclosed_ok (fun _ _ h => h) hd3 hw3 hM3 (by omega) (by omega) (fun c h => (hc c h).1) clo fun _ ks f m M4 _ _ _ _ hkeep hm hml hup hgr hneed hsrc hall => ?_
        walk_at "sl"
        refine q ks (ws ++ kvs.map (·.1)) f m M4 (fun k o e => ?_) hm (by have := g3.len; omega) ?_ hup hgr (hneed trivial) (by rw [List.length_append, List.length_map]; omega) hsrc
        · have kl := (List.getElem?_eq_some_iff.mp e).1
          exact hkeep k o (g3 k o e) (by omega) (by omega)
        · obtain ⟨w, hw'⟩ := List.exists_mem_of_ne_nil ws wn
          exact List.ne_nil_of_mem (hall w (List.mem_append_left _ hw'))
      · refine x_brn (fun e7 => ?_) fun e7 => ?_
        · walk_at "sl"
          refine lgreat_row_ok h7.1 h7.2 h5.1 h5.2 fun p d gd nd => ?_
          obtain ⟨w, fs, rfl⟩ := gr_head gd
          obtain ⟨clo', hk2⟩ := clo_put clo gd nd hk hws w5
          walk_at "sl"
          refine x_ixT rfl ?_
          refine x_putD hd2 (by rcases hk with rfl | ⟨x, rfl⟩ <;> exact Nat.lt_of_lt_of_le (Nat.lt_succ_self _) (Nat.le_of_ble_eq_true rfl)) ?_
          exact hK _ _ ⟨_, _, rfl, g2.set (Nat.le_refl _) _, by rw [List.length_set]; exact hl2, set_same hd2, set_other hw2 wI.symm, clo', hk2⟩
        · exact x_skip (hK _ _ ⟨_, _, rfl, g2, hl2, hd2, hw2, clo, by rcases hk with rfl | ⟨x, rfl⟩ <;> simp⟩)
    · refine x_brn (fun e6 => ?_) fun e6 => ?_
      · walk_at "sl"
        refine lbig_row_ok (by omega) fun p d M2 g2 gd => ?_
        obtain ⟨nd1, nd2⟩ := gr_needs gd
        have hd2 := g2 _ _ (Gr.app _ _ _ _ hd1)
        have hw2 := g2 _ _ (lst_end _ _)
        obtain ⟨w, fs, rfl⟩ := gr_head gd
        walk_at "sl"
        refine x_ixT rfl ?_
        refine x_putD hd2 (by decide) ?_
        have hd3 := set_same hd2 (o := .dict (dput [] p (.tup [.int p, .str w, fs])))
        have hw3 := set_other hw2 (Ne.symm wI) (o := .dict (dput [] p (.tup [.int p, .str w, fs])))
        have g3 := ((gM.trans (Gr.app _ _)).trans g2).set (Nat.le_refl _) (.dict (dput [] p (.tup [.int p, .str w, fs])))
        have l3 : M1.length < (M2.set M.length (.dict (dput [] p (.tup [.int p, .str w, fs])))).length := by
          have := g2.len
          rw [List.length_append] at this
          rw [List.length_set]
          exact this
        generalize M2.set M.length (.dict (dput [] p (.tup [.int p, .str w, fs]))) = M3 at *
        walk_at "sl"
        refine lneeds_ok gd ?_
        walk_at "sl"
        refine x_extend (Gr.app _ _ _ _ hw3) (lst_end _ _) (by rw [List.length_map, List.length_map]; unfold lim; omega) ?_
        rw [← List.map_append]
        have hf := freeN_le (ws ++ [(p, D.tup [.int p, .str w, fs])].map (·.1)) [(p, D.tup [.int p, .str w, fs])]
        rw [List.length_append, List.length_map, List.length_singleton] at hf
        refine hJ _ _ ⟨_, [(p, .tup [.int p, .str w, fs])], ws ++ needs (.tup [.int p, .str w, fs]), rfl, (g3.trans (Gr.app _ _)).set (by omega) _, by rw [List.length_set, List.length_append]; omega, set_other (Gr.app _ _ _ _ hd3) wI, set_same (Gr.app _ _ _ _ hw3),
          ⟨by simp, fun x hx => by rw [List.mem_singleton.mp hx]; exact gd, fun _ x hx r hr => by rw [List.mem_singleton.mp hx] at hr; exact .inr (List.mem_append_right _ hr), fun v hv => ?_, fun v hv => ?_, fun v hv => ?_, by rw [List.length_append]; omega, by rw [List.length_singleton]; omega⟩, .inr ⟨_, rfl⟩, by rw [List.length_append]; omega⟩
        · rcases List.mem_append.mp hv with h | h
          · exact hw v h
          · have := nd1 v h
            exact ⟨this.1.1, by omega, fun _ => by omega⟩
        · rcases hv with h | h
          · exact .inl (List.mem_append_right _ h)
          · rcases List.mem_append.mp h with h | h
            · exact .inl (List.mem_append_left _ h)
            · exact .inr (nd1 v h)
        · rcases List.mem_append.mp hv with h | h
          · exact .inr (List.mem_append_left _ h)
          · exact .inl h
      · have hf := freeN_le (ws ++ ([] : List (Int × D)).map (·.1)) []
        rw [List.length_append, List.length_map, List.length_nil] at hf
        refine x_skip (hJ _ _ ⟨_, [], ws, rfl, gM.trans (Gr.app _ _), by rw [List.length_append]; exact Nat.lt_succ_self _, Gr.app _ _ _ _ hd1, lst_end _ _, ⟨by simp, fun x hx => (nomatch hx), fun _ x hx => (nomatch hx), hw, fun v hv => ?_, fun v hv => ?_, by omega, by rw [List.length_nil]; omega⟩, .inl rfl, by omega⟩)
        · rcases hv with h | h
          · cases h
          · exact .inl (List.mem_append_left _ h)
        · rcases List.mem_append.mp hv with h | h
          · exact .inr h
          · cases h
  · rintro i ys M' N hi ⟨ws, rfl, hwl, g1, hw⟩ hN
    refine ⟨_, rfl, ?_⟩
    have hM1 := g1 _ _ (Gr.app _ _ _ _ hM)
    have hci := hce (0 + (i : Int))
    have hi5 : i < 5 := by omega
    walk_at "sl"
    walk_at "pk"
    all_goals
      walk_at "sl"
      refine ⟨by rw [List.length_map]; unfold lim; omega, ?_⟩
      rw [← List.map_singleton (f := D.int), ← List.map_append]
      refine hN _ _ ⟨ws ++ [_], rfl, by rw [List.length_append]; show ws.length + 1 = i + 1; omega, g1.trans (Gr.app _ _), fun w hw' => ?_⟩
      rcases List.mem_append.mp hw' with h | h
      · exact hw w h
      · rw [List.mem_singleton.mp h]
        exact ⟨by omega, by omega, fun _ => by omega⟩
theorem cells_lt {cs : List Int} (h : ∀ c ∈ cs, 0 ≤ c ∧ c < 2147483647) : ∀ c ∈ cs, 0 ≤ c ∧ c < 4294967296 := fun c hc => ⟨(h c hc).1, by have := (h c hc).2; omega⟩

theorem number_any {hh : Option (Nat × Nat)} {n : Nat} {w : List Nat} {M : MS} {Q : VQ} {E : XQ} (hl : w.length ≤ lim) (q : ans ((numP w).map D.int) Q E M) : OO hh (n + 1) 37 [.str w] M Q E := by
  refine oo_call rfl rfl ?_
  dsimp only [d_number_of]
  walk_at "in"
  walk_at "sl"
  walk_at "in"
  have bad : ¬ (isFigs w = true ∧ 1 ≤ w.length ∧ w.length ≤ 31 ∧ w.head? ≠ some 48) → E 7 M := fun h => by
    unfold numP at q
    rw [if_neg h] at q
    exact q
  refine wFor_free (fun r σ M' => ∃ (y : Option D) (pre s : List Nat), σ = [some (.str w), y] ∧ M' = M ∧ w = pre ++ s ∧ r = s.map (fun c => .str [c]) ∧ ∀ c ∈ pre, 48 ≤ c ∧ c ≤ 57) ?_ ?_ ⟨none, [], w, rfl, rfl, rfl, rfl, fun _ z => (nomatch z)⟩
  · rintro σ M' ⟨y, pre, s, rfl, rfl, e, es, hs⟩
    have : s = [] := by cases s <;> first | rfl | cases es
    subst this
    rw [List.append_nil] at e
    subst e
    have fg : isFigs w = true := by
      unfold isFigs
      rw [List.all_eq_true]
      exact fun c hc => decide_eq_true (hs c hc)
    walk_at "sl"
    refine x_lenS hl ?_
    walk_at "sl"
    refine x_brn (fun h1 => ?_) fun h1 => ?_
    · walk_at "sl"
      refine x_brn' (fun h2 => ?_) fun h2 => ?_
      · walk_at "sl"
        exact bad fun z => h2 (by omega)
      · walk_at "sl"
        cases w with
        | nil => rw [List.length_nil] at h1; omega
        | cons c r =>
          refine x_ixS hl (c := c) atI_zero ?_
          walk_at "sl"
          refine x_brn (fun h3 => ?_) fun h3 => ?_
          · walk_at "sl"
            exact bad fun z => z.2.2.2 (by cases h3; rfl)
          · walk_at "sl"
            refine x_parse fg (by simp) (by omega) ?_
            have good : isFigs (c :: r) = true ∧ 1 ≤ (c :: r).length ∧ (c :: r).length ≤ 31 ∧ (c :: r).head? ≠ some 48 := ⟨fg, by omega, by omega, fun z => h3 (by cases z; rfl)⟩
            unfold numP at q
            rw [if_pos good] at q
            exact q
    · walk_at "sl"
      exact bad fun z => h1 (by omega)
  · rintro d r σ M' N ⟨y, pre, s, rfl, rfl, e, es, hs⟩ hN
    cases s with
    | nil => cases es
    | cons c s =>
      obtain ⟨rfl, rfl⟩ := List.cons.inj es
      refine ⟨_, rfl, ?_⟩
      walk_at "sl"
      refine x_notinStr ?_
      have mem : c ∈ [48, 49, 50, 51, 52, 53, 54, 55, 56, 57] ↔ 48 ≤ c ∧ c ≤ 57 := by
        simp only [List.mem_cons, List.not_mem_nil, or_false]
        omega
      refine x_brn' (fun h1 => ?_) fun h1 => ?_
      · walk_at "sl"
        refine bad fun z => h1 (mem.mpr (isFigs_all z.1 c ?_))
        rw [e]
        simp
      · walk_at "sl"
        refine hN _ _ ⟨_, pre ++ [c], s, rfl, rfl, by rw [e, List.append_assoc]; rfl, rfl, fun x hx => ?_⟩
        rcases List.mem_append.mp hx with hx | hx
        · exact hs x hx
        · rw [List.mem_singleton.mp hx]
          exact mem.mp h1
theorem power_any {hh : Option (Nat × Nat)} {n : Nat} {w : List Nat} {M : MS} {Q : VQ} {E : XQ} (hl : w.length ≤ lim) (q : ∀ M', Gr M M' → ans ((powP w).map pairD) Q E M') : OO hh (n + 2) 38 [.str w] M Q E := by
  refine oo_call rfl rfl ?_
  dsimp only [d_power_of]
  walk_at "in"
  walk_at "sl"
  refine x_rcvSp ?_
  walk_at "sl"
  refine x_split hl (by decide) ?_
  have q := q _ (Gr.app M [MO.lst ((splitC 94 w).map .str)])
  have hm := lst_end M (MO.lst ((splitC 94 w).map .str))
  have sub := fun p (hp : p ∈ splitC 94 w) => (split_sub hp).1
  unfold powP at q
  generalize splitC 94 w = l at *
  generalize M ++ [MO.lst (l.map .str)] = M1 at *
  walk_at "sl"
  refine x_brn' (fun h1 => ?_) fun h1 => ?_
  · rw [List.length_map] at h1
    walk_at "sl"
    match l, q, h1 with
    | [], q, _ => exact q
    | [_], q, _ => exact q
    | [a, b], q, h1 => exact absurd rfl h1
    | _ :: _ :: _ :: _, q, _ => exact q
  · rw [List.length_map] at h1
    match l, q, h1, hm, sub with
    | [a, b], q, h1, hm, sub =>
      have la := sub a (by simp)
      have lb := sub b (by simp)
      simp only [] at q
      walk_at "sl"
      refine x_ixL hm (d := .str a) atI_zero ?_
      walk_at "sl"
      refine number_any (by omega) ?_
      cases ha : numP a with
      | none =>
        rw [ha] at q
        exact q
      | some x =>
        rw [ha] at q
        simp only [] at q
        show wA _ _ _ _ _ _
        walk_at "sl"
        refine x_ixL hm (d := .str b) atI_one ?_
        walk_at "sl"
        refine number_any (by omega) ?_
        cases hb : numP b with
        | none =>
          rw [hb] at q
          exact q
        | some y =>
          rw [hb] at q
          show wA _ _ _ _ _ _
          walk_at "sl"
          exact q
    | [], _, h1, _, _ => exact absurd h1 (by decide)
    | [_], _, h1, _, _ => exact absurd h1 (by simp)
    | _ :: _ :: _ :: _, _, h1, _, _ => exact absurd h1 (by simp only [List.length_cons]; omega)
theorem row_any {hh : Option (Nat × Nat)} {n : Nat} {w : List Nat} {M : MS} {Q : VQ} {E : XQ} (hl : w.length < lim) (q : ∀ M', Gr M M' → ans (rowP w) Q E M') : OO hh (n + 3) 39 [.str w] M Q E := by
  refine oo_call rfl rfl ?_
  dsimp only [d_row_of]
  walk_at "in"
  walk_at "sl"
  refine x_rcvSp ?_
  walk_at "sl"
  refine x_split (Nat.le_of_lt hl) (by decide) ?_
  have g1 := Gr.app M [MO.lst ((splitC 32 w).map .str)]
  have hm := lst_end M (MO.lst ((splitC 32 w).map .str))
  have sub := fun p (hp : p ∈ splitC 32 w) => (split_sub hp).1
  have sl := split_len (c := 32) w
  unfold rowP at q
  generalize splitC 32 w = l at *
  generalize M ++ [MO.lst (l.map .str)] = M1 at *
  walk_at "sl"
  rw [List.length_map]
  refine x_brn (fun h1 => ?_) fun h1 => ?_
  · walk_at "sl"
    match l, q, h1 with
    | [], q, _ => exact q _ g1
    | [_], q, _ => exact q _ g1
    | _ :: _ :: _, _, h1 => exact absurd h1 (by simp only [List.length_cons]; omega)
  · match l, q, h1, hm, sub, sl with
    | [], _, h1, _, _, _ => exact absurd (by decide) h1
    | [_], _, h1, _, _, _ => exact absurd (by simp) h1
    | a :: v :: rest, q, h1, hm, sub, sl =>
      have la := sub a (by simp)
      have lr := fun x (hx : x ∈ rest) => sub x (List.mem_cons_of_mem _ (List.mem_cons_of_mem _ hx))
      simp only [List.length_cons] at sl
      simp only [] at q
      rw [List.map_cons, List.map_cons] at hm
      have other : ¬ (v = sPrime ∧ rest ≠ []) → wS (OO hh (n + 2)) (.ret (.tup (.cons (.call 37 (.cons (.idx (.var 1) (.con (.int 0))) .nil)) (.cons (.idx (.var 1) (.con (.int 1))) (.cons (.bi .tuple (.cons (.compx [3] .lst (.cons (.slice (.var 1) (.cons (.con (.int 2)) .nil) .nil) .nil) (.name 3) (.call 37 (.cons (.var 3) .nil))) .nil)) .nil)))))
          [some (.str w), some (.ref M.length), none, none] M1 ⟨fun _ M' => Q .non M', Q, fun c _ M' => E c M'⟩ := fun hw => by
        rw [if_neg hw] at q
        walk_at "sl"
        refine x_ixL hm (d := .str a) atI_zero ?_
        walk_at "sl"
        refine number_any (by omega) ?_
        cases ha : numP a with
        | none =>
          rw [ha] at q
          exact q _ g1
        | some x =>
          rw [ha] at q
          simp only [] at q
          show wA _ _ _ _ _ _
          walk_at "sl"
          refine x_ixL hm (d := .str v) atI_one ?_
          walk_at "sl"
          have ed : (D.str a :: .str v :: rest.map D.str).drop (2 : Int).toNat = rest.map D.str := rfl
          rw [ed]
          have g2 := Gr.app M1 [MO.lst (rest.map D.str)]
          refine turns_opt (E := E) (h := .live M1.length (rest.map .str)) (M0 := M1 ++ [MO.lst (rest.map D.str)]) numP D.int (fun M' g' => g' _ _ (lst_end _ _)) (fun _ => rfl) rest [] _ (Gr.refl _) (by rw [List.length_nil]; omega) ?_ ?_
          · intro z hz
            have lz := lr z hz
            refine ⟨_, rfl, fun M' R g' r => ?_⟩
            walk_at "sl"
            exact number_any (by omega) (r _ (Gr.refl _))
          · intro M' g'
            have gM := g1.trans (g2.trans g')
            cases hb : mapP numP rest with
            | none =>
              rw [hb] at q
              exact q _ gM
            | some is =>
              rw [hb] at q
              simp only [List.nil_append] at q ⊢
              walk_at "sl"
              exact q _ (gM.trans (Gr.app _ _))
      walk_at "sl"
      refine x_ixL hm (d := .str v) atI_one ?_
      walk_at "sl"
      refine x_brn (fun h2 => ?_) fun h2 => ?_
      · have h2 : v = sPrime := h2
        walk_at "sl"
        refine x_brn (fun h3 => ?_) fun h3 => ?_
        · simp only [List.length_cons, List.length_map] at h3
          cases rest with
          | nil => exact absurd h3 (by decide)
          | cons b rest =>
            rw [if_pos ⟨h2, by simp⟩, List.drop_one, List.tail_cons, List.headD_cons] at q
            have lb := lr b (by simp)
            simp only [List.length_cons] at sl
            walk_at "sl"
            have ed : (D.str a :: .str v :: (b :: rest).map D.str).drop (3 : Int).toNat = rest.map D.str := rfl
            rw [ed]
            have g2 := Gr.app M1 [MO.lst (rest.map D.str)]
            refine turns_opt (E := E) (h := .live M1.length (rest.map .str)) (M0 := M1 ++ [MO.lst (rest.map D.str)]) powP pairD (fun M' g' => g' _ _ (lst_end _ _)) (fun _ => rfl) rest [] _ (Gr.refl _) (by rw [List.length_nil]; omega) ?_ ?_
            · intro z hz
              have lz := lr z (List.mem_cons_of_mem _ hz)
              refine ⟨_, rfl, fun M' R g' r => ?_⟩
              walk_at "sl"
              exact power_any (by omega) r
            · intro M' g'
              have gM := g1.trans (g2.trans g')
              have hm2 := (g2.trans g') _ _ hm
              cases hb : mapP powP rest with
              | none =>
                rw [hb] at q
                exact q _ gM
              | some ps =>
                rw [hb] at q
                simp only [List.nil_append] at q ⊢
                have hm3 := Gr.app M' [MO.lst (ps.map pairD)] _ _ hm2
                have gN := gM.trans (Gr.app M' [MO.lst (ps.map pairD)])
                walk_at "sl"
                refine x_ixL hm3 (d := .str a) atI_zero ?_
                walk_at "sl"
                refine number_any (by omega) ?_
                cases ha : numP a with
                | none =>
                  rw [ha] at q
                  exact q _ gN
                | some x =>
                  rw [ha] at q
                  simp only [] at q
                  show wA _ _ _ _ _ _
                  walk_at "sl"
                  refine x_ixL hm3 (d := .str v) atI_one ?_
                  walk_at "sl"
                  refine x_ixL hm3 (d := .str b) atI_two ?_
                  walk_at "sl"
                  refine number_any (by omega) ?_
                  cases hc : numP b with
                  | none =>
                    rw [hc] at q
                    exact q _ gN
                  | some y =>
                    rw [hc] at q
                    simp only [] at q
                    show wA _ _ _ _ _ _
                    walk_at "sl"
                    exact q _ gN
        · walk_at "sl"
          exact other fun z => by
            obtain ⟨_, z⟩ := z
            have := List.length_pos_iff.mpr z
            simp only [List.length_cons, List.length_map] at h3
            omega
      · walk_at "sl"
        exact other fun z => h2 z.1
theorem read_any {hh : Option (Nat × Nat)} {n : Nat} {t : List Nat} {M : MS} {Q : VQ} {E : XQ} (hl : t.length < lim) (hc : ∀ c ∈ t, c < 1114112) (q : ∀ M', Gr M M' → ans ((readP t).map D.tup) Q E M') : OO hh (n + 6) 40 [.str t] M Q E := by
  refine oo_call rfl rfl ?_
  dsimp only [d_read]
  walk_at "in"
  walk_at "sl"
  refine x_rcvSp ?_
  walk_at "sl"
  refine x_split (Nat.le_of_lt hl) (by decide) ?_
  have g1 := Gr.app M [MO.lst ((splitC 10 t).map .str)]
  have sub := fun p (hp : p ∈ splitC 10 t) => (split_sub hp)
  have sl := split_len (c := 10) t
  unfold readP at q
  have fact := fun rs => mapRow_some (ws := splitC 10 t) (rs := rs) (fun w hw c hx => hc c ((sub w hw).2 c hx))
  generalize splitC 10 t = l at *
  walk_at "sl"
  refine turns_opt (E := E) (h := .live M.length (l.map .str)) (M0 := M ++ [MO.lst (l.map D.str)]) rowP id (fun M' g' => g' _ _ (lst_end _ _)) (fun _ => rfl) l [] _ (Gr.refl _) (by rw [List.length_nil]; omega) ?_ ?_
  · intro z hz
    have lz := (sub z hz).1
    refine ⟨_, rfl, fun M' R g' r => ?_⟩
    walk_at "sl"
    refine row_any (by omega) fun M2 g2 => ?_
    have r := r M2 g2
    rw [Option.map_id] at r
    exact r
  · intro M' g'
    have gM := g1.trans g'
    cases hb : mapP rowP l with
    | none =>
      rw [hb] at q
      exact q _ gM
    | some rs =>
      rw [hb] at q
      simp only [List.nil_append, List.map_id] at q ⊢
      have hr := (fact rs hb).2
      walk_at "sl"
      refine is_slip_ok (Th.tup (j := 3) (k := 9) fun d hd => prow_th (k := 4) (hr d hd)) ?_
      walk_at "sl"
      have gN := gM.trans (Gr.app M' [MO.lst rs])
      cases hs : slipB (.tup rs) with
      | true =>
        rw [if_pos hs] at q
        walk_at "sl"
        exact q _ gN
      | false =>
        rw [if_neg (by rw [hs]; exact Bool.false_ne_true)] at q
        walk_at "sl"
        exact q _ gN
theorem words_other {n : Int} {w : List Nat} {is : List Int} (e : w ≠ sPrime) : wordsV (.tup [.int n, .str w, .tup (is.map .int)]) = itos n :: w :: is.map itos := by
  show itos n :: w :: (if w = sPrime then _ else (is.map D.int).map fun d => itos (intOf d)) = _
  rw [if_neg e, List.map_map]
  rfl
theorem lline_any {n : Nat} {d : D} {M : MS} {Q : VQ} {E : XQ} (t : LRow d) (hl : (lineV d).length ≤ lim) (q : Q (.str (lineV d)) M) : wF PP (n + 1) 136 [d] M Q E := by
  have e1 : ([32] : List Nat).length = 1 := rfl
  have e2 : ([94] : List Nat).length = 1 := rfl
  have two : ∀ a b : List Nat, joinC [32] [a, b] = a ++ [32] ++ b := fun _ _ => rfl
  cases t with
  | @prime v b ps v0 v1 b0 b1 hp =>
    unfold lineV at hl q
    rw [words_prime] at hl q
    have pre : ∀ k, (joinC [32] ([itos v, sPrime, itos b] ++ (ps.take k).map powW)).length ≤ lim := fun k => by
      refine Nat.le_trans ?_ hl
      have e : itos v :: sPrime :: itos b :: ps.map powW = ([itos v, sPrime, itos b] ++ (ps.take k).map powW) ++ (ps.drop k).map powW := by
        rw [List.append_assoc, ← List.map_append, List.take_append_drop]
        rfl
      rw [e]
      exact joinC_pre _ _
    have p0 := pre 0
    rw [List.take_zero, List.map_nil, List.append_nil] at p0
    have p0' : (itos v ++ [32] ++ (sPrime ++ [32] ++ itos b)).length ≤ lim := p0
    simp only [List.length_append, e1] at p0'
    refine wF_call rfl rfl ?_
    dsimp only [d__law_line]
    walk_at "in"
    walk_at "sl"
    refine x_ixT rfl ?_
    walk_at "sl"
    refine x_str v0 (num_fine v0 v1) ?_
    walk_at "sl"
    refine x_addS (by rw [e1]; omega) ?_
    walk_at "sl"
    refine x_ixT rfl ?_
    refine x_addS (by rw [List.length_append, e1]; omega) ?_
    walk_at "sl"
    refine x_ixT rfl ?_
    walk_at "sl"
    refine x_yes rfl ?_
    walk_at "sl"
    refine x_addS (by simp only [List.length_append, e1]; omega) ?_
    walk_at "sl"
    refine x_ixT rfl ?_
    walk_at "sl"
    refine x_ixT rfl ?_
    walk_at "sl"
    refine x_str b0 (num_fine b0 b1) ?_
    refine x_addS (by simp only [List.length_append, e1]; omega) ?_
    walk_at "sl"
    refine x_ixT rfl ?_
    walk_at "sl"
    refine x_ixT rfl ?_
    walk_at "sl"
    walk_at "in"
    refine wFor_free (fun r σ M' => ∃ (y z u : Option D) (k : Nat) (s : List Nat), σ = [some (.tup [.int v, .str sPrime, .tup [.int b, .tup (ps.map pairD)]]), some (.str s), y, z, u] ∧ M' = M ∧ k ≤ ps.length ∧ r = (ps.drop k).map pairD ∧ s = joinC [32] ([itos v, sPrime, itos b] ++ (ps.take k).map powW)) ?_ ?_ ⟨none, none, none, 0, _, rfl, rfl, Nat.zero_le _, rfl, ?_⟩
    · rintro σ M' ⟨y, z, u, k, s, rfl, rfl, hk, er, rfl⟩
      have hk2 : ps.length ≤ k := by
        have := congrArg List.length er
        rw [List.length_map, List.length_drop, List.length_nil] at this
        omega
      rw [List.take_of_length_le hk2]
      walk_at "sl"
      exact q
    · rintro d r σ M' N ⟨y, z, u, k, s, rfl, rfl, hk, er, es⟩ hN
      have hk2 : k < ps.length := by
        have := congrArg List.length er
        rw [List.length_map, List.length_drop, List.length_cons] at this
        omega
      rw [List.drop_eq_getElem_cons hk2, List.map_cons] at er
      obtain ⟨rfl, rfl⟩ := List.cons.inj er
      refine ⟨_, rfl, ?_⟩
      have hp := hp ps[k] (List.getElem_mem hk2)
      have pk := pre (k + 1)
      have ek : [itos v, sPrime, itos b] ++ (ps.take (k + 1)).map powW = ([itos v, sPrime, itos b] ++ (ps.take k).map powW) ++ [powW ps[k]] := by
        rw [List.take_succ_eq_append_getElem hk2, List.map_append, ← List.append_assoc]
        rfl
      rw [ek, joinC_snoc (by simp), ← es] at pk
      unfold powW at pk
      simp only [List.length_append, e1, e2] at pk
      generalize hpk : ps[k] = p at *
      walk_at "sl"
      refine x_addS (by rw [e1]; omega) ?_
      walk_at "sl"
      refine x_str hp.1 (num_fine hp.1 hp.2.1) ?_
      refine x_addS (by simp only [List.length_append, e1]; omega) ?_
      walk_at "sl"
      refine x_addS (by simp only [List.length_append, e1, e2]; omega) ?_
      walk_at "sl"
      refine x_str hp.2.2.1 (num_fine hp.2.2.1 hp.2.2.2) ?_
      refine x_addS (by simp only [List.length_append, e1, e2]; omega) ?_
      refine hN _ _ ⟨_, _, _, k + 1, _, rfl, rfl, hk2, rfl, ?_⟩
      rw [ek, joinC_snoc (by simp), ← es]
      unfold powW
      simp only [List.append_assoc]
    · show _ = (itos v ++ [32] ++ (sPrime ++ [32] ++ itos b))
      simp only [List.append_assoc]
  | @other v w is e v0 v1 hi =>
    unfold lineV at hl q
    rw [words_other e] at hl q
    have pre : ∀ k, (joinC [32] ([itos v, w] ++ (is.take k).map itos)).length ≤ lim := fun k => by
      refine Nat.le_trans ?_ hl
      have e : itos v :: w :: is.map itos = ([itos v, w] ++ (is.take k).map itos) ++ (is.drop k).map itos := by
        rw [List.append_assoc, ← List.map_append, List.take_append_drop]
        rfl
      rw [e]
      exact joinC_pre _ _
    have p0 := pre 0
    rw [List.take_zero, List.map_nil, List.append_nil, two] at p0
    simp only [List.length_append, e1] at p0
    refine wF_call rfl rfl ?_
    dsimp only [d__law_line]
    walk_at "in"
    walk_at "sl"
    refine x_ixT rfl ?_
    walk_at "sl"
    refine x_str v0 (num_fine v0 v1) ?_
    walk_at "sl"
    refine x_addS (by rw [e1]; omega) ?_
    walk_at "sl"
    refine x_ixT rfl ?_
    refine x_addS (by rw [List.length_append, e1]; omega) ?_
    walk_at "sl"
    refine x_ixT rfl ?_
    walk_at "sl"
    refine x_no e ?_
    walk_at "sl"
    refine x_ixT rfl ?_
    walk_at "sl"
    walk_at "in"
    refine wFor_free (fun r σ M' => ∃ (y z u : Option D) (k : Nat) (s : List Nat), σ = [some (.tup [.int v, .str w, .tup (is.map D.int)]), some (.str s), y, z, u] ∧ M' = M ∧ k ≤ is.length ∧ r = (is.drop k).map D.int ∧ s = joinC [32] ([itos v, w] ++ (is.take k).map itos)) ?_ ?_ ⟨none, none, none, 0, _, rfl, rfl, Nat.zero_le _, rfl, rfl⟩
    · rintro σ M' ⟨y, z, u, k, s, rfl, rfl, hk, er, rfl⟩
      have hk2 : is.length ≤ k := by
        have := congrArg List.length er
        rw [List.length_map, List.length_drop, List.length_nil] at this
        omega
      rw [List.take_of_length_le hk2]
      walk_at "sl"
      exact q
    · rintro d r σ M' N ⟨y, z, u, k, s, rfl, rfl, hk, er, es⟩ hN
      have hk2 : k < is.length := by
        have := congrArg List.length er
        rw [List.length_map, List.length_drop, List.length_cons] at this
        omega
      rw [List.drop_eq_getElem_cons hk2, List.map_cons] at er
      obtain ⟨rfl, rfl⟩ := List.cons.inj er
      refine ⟨_, rfl, ?_⟩
      have hp := hi is[k] (List.getElem_mem hk2)
      have pk := pre (k + 1)
      have ek : [itos v, w] ++ (is.take (k + 1)).map itos = ([itos v, w] ++ (is.take k).map itos) ++ [itos is[k]] := by
        rw [List.take_succ_eq_append_getElem hk2, List.map_append, ← List.append_assoc]
        rfl
      rw [ek, joinC_snoc (by simp), ← es] at pk
      simp only [List.length_append, e1] at pk
      generalize hpk : is[k] = p at *
      walk_at "sl"
      refine x_addS (by rw [e1]; omega) ?_
      walk_at "sl"
      refine x_str hp.1 (num_fine hp.1 hp.2) ?_
      refine x_addS (by simp only [List.length_append, e1]; omega) ?_
      refine hN _ _ ⟨_, _, _, k + 1, _, rfl, rfl, hk2, rfl, ?_⟩
      rw [ek, joinC_snoc (by simp), ← es]
theorem refused_ok {c a n : Nat} {t : List Nat} {M : MS} {Q : VQ} {E : XQ} (hl : t.length < lim) (hc : ∀ c ∈ t, c < 1114112) (h : readP t = none) (q : ∀ M', Q (.bool true) M') : OO (some (c, a)) (n + 7) 139 [.str t] M Q E := by
  refine oo_call rfl rfl ?_
  dsimp only [d__law_refused]
  walk_at "in"
  refine x_seq ?_
  refine x_try ?_
  walk_at "sl"
  refine read_any hl hc fun M1 g1 => ?_
  rw [h]
  show hndl _ _ _ _ _ _ _ _
  refine hndl_yes rfl fun a2 => ?_
  walk_at "sl"
  refine x_isx ?_
  walk_at "sl"
  refine x_isx ?_
  walk_at "sl"
  refine x_isx ?_
  walk_at "sl"
  refine x_isx ?_
  walk_at "sl"
  dsimp only [Hold.start]
  have gr0 := lst_end M1 (MO.lst [D.bool (excLe 7 (Int.toNat 6)), D.bool (excLe 7 (Int.toNat 2)), D.bool (excLe 7 (Int.toNat 4)), D.bool (excLe 7 (Int.toNat 3))])
  refine wFor_inv (fun r σ M' => ∃ y : Option D, σ = [some (.str t), some (.exc 7 a2), y] ∧ M'[M1.length]? = some (.lst [D.bool (excLe 7 (Int.toNat 6)), D.bool (excLe 7 (Int.toNat 2)), D.bool (excLe 7 (Int.toNat 4)), D.bool (excLe 7 (Int.toNat 3))]) ∧ ∀ d ∈ r, d = .bool false) ?_ ?_ _ _ _ ⟨none, rfl, gr0, fun d hd => ?_⟩
  · rintro σ M' ⟨y, rfl, hm, _⟩
    refine ⟨hm, ?_⟩
    dsimp only [Hold.fin]
    walk_at "sl"
    refine x_isx ?_
    refine x_isT rfl ?_
    walk_at "sl"
    refine x_isx ?_
    refine x_isT rfl ?_
    walk_at "sl"
    refine x_isx ?_
    walk_at "sl"
    exact q _
  · rintro d r σ M' N ⟨y, rfl, hm, hr⟩ hN
    have hd := hr d List.mem_cons_self
    subst hd
    refine ⟨hm, _, rfl, ?_⟩
    walk_at "sl"
    exact hN _ _ ⟨_, rfl, hm, fun d hd => hr d (List.mem_cons_of_mem _ hd)⟩
  · rcases List.mem_cons.mp hd with rfl | hd
    · rfl
    rcases List.mem_cons.mp hd with rfl | hd
    · rfl
    rcases List.mem_cons.mp hd with rfl | hd
    · rfl
    rw [List.mem_singleton.mp hd]
    rfl
theorem slip_right_ok {n : Nat} {rs : List D} {M : MS} {Q : VQ} {E : XQ} (h : ∀ d ∈ rs, PRow d) (hs : slipB (.tup rs) = true) (q : ∀ M', Gr M M' → Q (.bool true) M') : wF PP (n + 4) 138 [.tup rs] M Q E := by
  obtain ⟨l1, l2, hr, up⟩ := slipB_facts hs
  refine wF_call rfl rfl ?_
  dsimp only [d__law_slip_right]
  walk_at "in"
  walk_at "sl"
  refine x_isF rfl ?_
  walk_at "sl"
  refine x_yes (by omega) ?_
  walk_at "sl"
  refine x_isF (by rw [decide_eq_true (show (rs.length : Int) ≤ 200 by omega)]; rfl) ?_
  walk_at "sl"
  walk_at "in"
  refine turns_all (h := .free) (fun _ => .bool true) (by unfold lim; omega) trivial ?_ ?_
  · intro d hd
    refine ⟨_, rfl, fun R r => by walk_at "sl"; exact r, fun R r => ?_⟩
    walk_at "sl"
    refine row_right_ok (k := 0) (prow_th (k := 0) (h d hd)) (by omega) ?_
    rw [hr d hd]
    exact r
  · walk_at "sl"
    have e : rs.map (fun _ => D.bool true) = (rs.map fun _ => true).map D.bool := by rw [List.map_map]; rfl
    rw [e]
    have bo : boolsOf ((rs.map fun _ => true).map D.bool) = some (rs.map fun _ => true) := by
      have := boolsOf_map (rs.map fun _ => true) id
      rw [List.map_id] at this
      exact this
    refine x_all (lst_end _ _) bo ?_
    have e2 : (rs.map fun _ => true).all id = true := by
      rw [List.all_eq_true]
      intro x hx
      obtain ⟨_, _, rfl⟩ := List.mem_map.mp hx
      rfl
    rw [e2]
    walk_at "sl"
    generalize hM1 : M ++ [MO.lst ((rs.map fun _ => true).map D.bool)] = M1
    have g1 : Gr M M1 := by rw [← hM1]; exact Gr.app _ _
    refine x_isF rfl ?_
    walk_at "sl"
    refine wFor_rng (fun i σ M' => ∃ y z : Option D, σ = [some (.tup rs), y, z] ∧ M' = M1) ?_ ?_ ⟨none, none, rfl, rfl⟩
    · rintro σ M' ⟨y, z, rfl, rfl⟩
      walk_at "sl"
      exact q _ g1
    · rintro i σ M' N hi ⟨y, z, rfl, rfl⟩ hN
      have hi : i < rs.length - 1 := by omega
      have h0 : i < rs.length := by omega
      have h1 : i + 1 < rs.length := by omega
      refine ⟨_, rfl, ?_⟩
      have u := (List.pairwise_iff_getElem.mp up) i (i + 1) h0 h1 (Nat.lt_succ_self _)
      obtain ⟨a, ar, ea, _, _⟩ := rowB_head (hr rs[i] (List.getElem_mem h0))
      obtain ⟨b, br, eb, _, _⟩ := rowB_head (hr rs[i + 1] (List.getElem_mem h1))
      rw [ea, eb] at u
      have u : a < b := u
      walk_at "sl"
      refine x_ixT (d := rs[i]) ?_ ?_
      · rw [show (1 + (i : Int) - 1) = ((i : Nat) : Int) by omega, atI_nat, List.getElem?_eq_getElem h0]
      rw [ea]
      walk_at "sl"
      refine x_ixT (d := .int a) atI_zero ?_
      walk_at "sl"
      refine x_ixT (d := rs[i + 1]) ?_ ?_
      · rw [show (1 + (i : Int)) = ((i + 1 : Nat) : Int) by omega, atI_nat, List.getElem?_eq_getElem h1]
      rw [eb]
      walk_at "sl"
      refine x_ixT (d := .int b) atI_zero ?_
      walk_at "sl"
      refine x_no (by omega) ?_
      exact x_skip (hN _ _ ⟨_, _, rfl, rfl⟩)
theorem changed_ok {n : Nat} {t : List Nat} {cell more : Int} {M : MS} {Q : VQ} {E : XQ} (hl : t.length ≤ 440000) (ht : TXT t) (c0 : 0 ≤ cell) (c1 : cell < 2147483647) (m0 : 0 ≤ more) (m1 : more < 2147483647)
    (q : ∀ t' M', Gr M M' → t'.length ≤ 2 * t.length + 5100 → TXT t' → Q (.str t') M') : wF PP (n + 1) 132 [.str t, .int cell, .int more] M Q E := by
  have hlim : t.length ≤ lim := by unfold lim; omega
  refine wF_call rfl rfl ?_
  dsimp only [d__law_changed]
  walk_at "in"
  walk_at "sl"
  refine x_lenS hlim ?_
  walk_at "sl"
  have a0 := Int.emod_nonneg more (show (1 + (t.length : Int)) ≠ 0 by omega)
  have a1 := Int.emod_lt_of_pos more (show 0 < 1 + (t.length : Int) by omega)
  generalize more % (1 + (t.length : Int)) = at' at *
  refine x_lenS (by decide) ?_
  walk_at "sl"
  refine x_ixSAny (by decide) (Int.emod_nonneg _ (by decide)) (Int.emod_lt_of_pos _ (by decide)) fun sg hsg => ?_
  have hsg : TXT [sg] := fun c hc => by
    rw [List.mem_singleton.mp hc]
    exact (show ∀ c ∈ ([48, 49, 50, 51, 52, 53, 54, 55, 56, 57, 94, 32, 10, 102, 105, 114, 115, 116, 112, 111, 119, 101, 108, 109, 100, 111, 43, 45, 95, 46, 44, 59, 58, 65, 66, 90, 33, 35, 126] : List Nat), c < 1114112 by decide) sg hsg
  have e1 : ([sg] : List Nat).length = 1 := rfl
  generalize hm10 : cell % 10 = m10
  walk_at "sl"
  rw [hm10]
  refine x_brn (fun h => ?_) fun h => ?_
  · walk_at "sl"
    refine x_slHS hlim a0 ?_
    walk_at "sl"
    refine x_slLS hlim (by omega) ?_
    refine x_addS (by rw [List.length_take, List.length_drop]; omega) ?_
    exact q _ _ (Gr.refl _) (by rw [List.length_append, List.length_take, List.length_drop]; omega) ((ht.take _).app (ht.drop _))
  walk_at "sl"
  rw [hm10]
  refine x_brn (fun h => ?_) fun h => ?_
  · walk_at "sl"
    refine x_slHS hlim a0 ?_
    walk_at "sl"
    refine x_addS (by rw [List.length_take, e1]; unfold lim; omega) ?_
    walk_at "sl"
    refine x_slLS hlim (by omega) ?_
    refine x_addS (by rw [List.length_append, List.length_take, List.length_drop, e1]; unfold lim; omega) ?_
    exact q _ _ (Gr.refl _) (by rw [List.length_append, List.length_append, List.length_take, List.length_drop, e1]; omega) (((ht.take _).app hsg).app (ht.drop _))
  walk_at "sl"
  rw [hm10]
  refine x_brn (fun h => ?_) fun h => ?_
  · walk_at "sl"
    refine x_slHS hlim a0 ?_
    walk_at "sl"
    refine x_addS (by rw [List.length_take, e1]; unfold lim; omega) ?_
    walk_at "sl"
    refine x_slLS hlim (by omega) ?_
    refine x_addS (by rw [List.length_append, List.length_take, List.length_drop, e1]; unfold lim; omega) ?_
    exact q _ _ (Gr.refl _) (by rw [List.length_append, List.length_append, List.length_take, List.length_drop, e1]; omega) (((ht.take _).app hsg).app (ht.drop _))
  walk_at "sl"
  refine x_rcvSp ?_
  walk_at "sl"
  refine x_split hlim (by decide) ?_
  have g1 := Gr.app M [MO.lst ((splitC 10 t).map .str)]
  have hm1 := lst_end M (MO.lst ((splitC 10 t).map .str))
  have tl := split_tot (c := 10) t
  have ne := splitC_some 10 t
  have tx : ∀ p ∈ splitC 10 t, TXT p := fun p hp => ht.split hp
  generalize splitC 10 t = l at *
  generalize M ++ [MO.lst (l.map .str)] = M1 at *
  have lpos := List.length_pos_iff.mpr ne
  have llen := tot_len l
  walk_at "sl"
  rw [List.length_map]
  have p0 := Int.emod_nonneg more (show (l.length : Int) ≠ 0 by omega)
  have p1 := Int.emod_lt_of_pos more (show 0 < (l.length : Int) by omega)
  have pm : (l.length : Int) ≠ 0 := by omega
  refine x_modI (by omega) ?_
  generalize more % (l.length : Int) = pl at *
  walk_at "sl"
  rw [hm10]
  refine x_brn (fun h3 => ?_) fun h3 => ?_
  · walk_at "sl"
    refine x_rcvJ ?_
    walk_at "sl"
    refine x_ixWrap (ds := l.map .str) (by walk_at "at") (by rw [List.length_map]; omega) (by rw [List.length_map]; omega) fun d hd => ?_
    obtain ⟨w, hw, rfl⟩ := map_mem hd
    walk_at "sl"
    have tw := tot_mem hw
    have tt : tot (l.take pl.toNat ++ [w] ++ l.drop pl.toNat) ≤ 2 * t.length + 2 := by
      have a := tot_cut l pl.toNat
      rw [tot_app, tot_app, tot_cons, tot_nil]
      omega
    refine x_joinT (l := l.take pl.toNat ++ [w] ++ l.drop pl.toNat) ?_ (by unfold lim; omega) ?_
    · rw [List.map_append, List.map_append, List.map_take, List.map_drop]
      exact lst_end _ _
    · have jt := join_tot (c := 10) (l := l.take pl.toNat ++ [w] ++ l.drop pl.toNat) (by simp)
      refine q _ _ (g1.trans (by walk_at "gr")) (by omega) (TXT.join (by decide) fun p hp => ?_)
      rcases List.mem_append.mp hp with hp | hp
      · rcases List.mem_append.mp hp with hp | hp
        · exact tx p (List.mem_of_mem_take hp)
        · rw [List.mem_singleton.mp hp]
          exact tx w hw
      · exact tx p (List.mem_of_mem_drop hp)
  walk_at "sl"
  rw [hm10]
  refine x_brn (fun h4 => ?_) fun h4 => ?_
  · walk_at "sl"
    rw [List.length_map]
    refine x_wkR (by omega) (by omega) ?_
    walk_at "in"
    refine turns_map (h := .free) (fun d => match d with | .int k => decide (94 ∈ l.getD k.toNat []) | _ => false) id trivial (rng 0 (l.length : Int)) [] (by rw [List.length_nil, rng_len]; unfold lim; omega) ?_ ?_
    · intro d hd
      obtain ⟨k, rfl, k0, k1⟩ := rng_mem.mp hd
      have hk : k.toNat < l.length := by omega
      refine ⟨_, rfl, fun R r => ?_, fun _ R r => ?_⟩
      · walk_at "sl"
        refine x_ixL hm1 (d := .str l[k.toNat]) ?_ ?_
        · rw [atI_in k0 (by rw [List.length_map]; exact k1), List.getElem?_map, List.getElem?_eq_getElem hk]
          rfl
        refine x_inStr ?_
        have r : R (.bool (decide (94 ∈ l.getD k.toNat []))) M1 := r
        rw [List.getD_eq_getElem?_getD, List.getElem?_eq_getElem hk] at r
        exact r
      · walk_at "sl"
        exact r
    rw [List.nil_append, List.map_id]
    have mem : ∀ d ∈ (rng 0 (l.length : Int)).filter (fun d => match d with | .int k => decide (94 ∈ l.getD k.toNat []) | _ => false), ∃ k : Int, d = .int k ∧ 0 ≤ k ∧ k < l.length := fun d hd => rng_mem.mp (List.mem_filter.mp hd).1
    generalize (rng 0 (l.length : Int)).filter (fun d => match d with | .int k => decide (94 ∈ l.getD k.toNat []) | _ => false) = ps at *
    have g2 := Gr.app M1 [MO.lst ps]
    have hps := lst_end M1 (MO.lst ps)
    have hm2 := g2 _ _ hm1
    have gM2 := g1.trans g2
    dsimp only [Hold.fin]
    generalize M1 ++ [MO.lst ps] = M2 at *
    refine x_seq ?_
    refine x_join (fun σ' M' => ∃ pl' : Int, 0 ≤ pl' ∧ pl' < l.length ∧ M' = M2 ∧ ∃ y4 y5 y8, σ' = [some (.str t), some (.int cell), some (.int more), some (.int at'), y4, y5, some (.ref M.length), some (.int pl'), y8, none, none, none]) ?_ fun hJ => ?_
    rotate_left
    · walk_at "sl"
      refine x_brn (fun h5 => ?_) fun h5 => ?_
      · walk_at "sl"
        refine x_brn (fun h6 => ?_) fun h6 => ?_
        · walk_at "sl"
          refine x_ixAny hps (Int.emod_nonneg _ (by omega)) (Int.emod_lt_of_pos _ (by omega)) fun d hd => ?_
          obtain ⟨k, rfl, k0, k1⟩ := mem d hd
          exact hJ _ _ ⟨k, k0, k1, rfl, _, _, _, rfl⟩
        · exact x_skip (hJ _ _ ⟨pl, p0, p1, rfl, _, _, _, rfl⟩)
      · walk_at "sl"
        exact hJ _ _ ⟨pl, p0, p1, rfl, _, _, _, rfl⟩
    rintro σ' M' ⟨pl', q0, q1, rfl, y4, y5, y8, rfl⟩
    walk_at "sl"
    have hk : pl'.toNat < l.length := by omega
    have tk := tot_at hk
    have txk := tx _ (List.getElem_mem hk)
    refine x_ixL hm2 (d := .str l[pl'.toNat]) ?_ ?_
    · rw [atI_in q0 (by rw [List.length_map]; exact q1), List.getElem?_map, List.getElem?_eq_getElem hk]
      rfl
    refine x_rcvSp ?_
    walk_at "sl"
    refine x_split (by unfold lim; omega) (by decide) ?_
    have tw := split_tot (c := 32) l[pl'.toNat]
    have wne := splitC_some 32 l[pl'.toNat]
    have wtx : ∀ p ∈ splitC 32 l[pl'.toNat], TXT p := fun p hp => txk.split hp
    generalize splitC 32 l[pl'.toNat] = ws at *
    have g3 := Gr.app M' [MO.lst (ws.map .str)]
    have hm3 := g3 _ _ hm2
    have hw3 := lst_end M' (MO.lst (ws.map .str))
    have hlt : M.length < M'.length := (List.getElem?_eq_some_iff.mp hm2).1
    generalize hM3 : M' ++ [MO.lst (ws.map .str)] = M3 at *
    have wpos := List.length_pos_iff.mpr wne
    have wlen := tot_len ws
    walk_at "sl"
    refine x_mulS (by decide) (by decide) (by simp) (by decide) ?_
    walk_at "sl"
    refine x_mulS (by decide) (by decide) (by simp) (by decide) ?_
    walk_at "sl"
    refine x_mulS (by decide) (by decide) (by simp) (by decide) ?_
    walk_at "sl"
    refine x_ixAny (lst_end _ _) (by omega) (by show _ < (8 : Int); omega) fun d hd => ?_
    have put : ∃ w, d = .str w ∧ w.length ≤ 5000 ∧ TXT w := by
      simp only [List.mem_cons, List.not_mem_nil, or_false, rep_one] at hd
      rcases hd with rfl | rfl | rfl | rfl | rfl | rfl | rfl | rfl
      · exact ⟨_, rfl, by decide, txt_dec (by decide)⟩
      · exact ⟨_, rfl, by decide, txt_dec (by decide)⟩
      · exact ⟨_, rfl, by decide, txt_dec (by decide)⟩
      · exact ⟨_, rfl, by decide, txt_dec (by decide)⟩
      · exact ⟨_, rfl, by rw [List.length_replicate]; decide, rep_txt _⟩
      · exact ⟨_, rfl, by rw [List.length_replicate]; decide, rep_txt _⟩
      · exact ⟨_, rfl, by decide, txt_dec (by decide)⟩
      · exact ⟨_, rfl, by rw [List.length_replicate]; decide, rep_txt _⟩
    clear hd
    obtain ⟨w, rfl, wl, wt⟩ := put
    refine gen_app (M := M3) (P := fun M4 => wS (wF PP n) _ _ M4 _) fun M4 g4 => ?_
    have hm4 := g4 _ _ hm3
    have hw4 := g4 _ _ hw3
    have gM4 := (gM2.trans g3).trans g4
    walk_at "sl"
    rw [List.length_map]
    refine x_modI (by omega) ?_
    have b0 := Int.emod_nonneg (cell / 80) (show (ws.length : Int) ≠ 0 by omega)
    have b1 := Int.emod_lt_of_pos (cell / 80) (show 0 < (ws.length : Int) by omega)
    generalize cell / 80 % (ws.length : Int) = bt at *
    refine x_seq ?_
    refine x_join (fun σ' M'' => ∃ (ws' : List (List Nat)) (y3 y4 y5 y8 y11 : Option D), Gr M M'' ∧ M''[M.length]? = some (.lst (l.map .str)) ∧ M''[M'.length]? = some (.lst (ws'.map .str)) ∧ tot ws' ≤ tot ws + 5001 ∧ ws' ≠ [] ∧ (∀ p ∈ ws', TXT p) ∧
      σ' = [some (.str t), some (.int cell), some (.int more), y3, y4, y5, some (.ref M.length), some (.int pl'), y8, none, some (.ref M'.length), y11]) ?_ fun hJ => ?_
    rotate_left
    · walk_at "sl"
      refine x_brn (fun h7 => ?_) fun h7 => ?_
      · walk_at "sl"
        refine x_insert hw4 (by rw [List.length_map]; unfold lim; omega) b0 (by omega) ?_
        have e : (ws.map D.str).take bt.toNat ++ [D.str w] ++ (ws.map D.str).drop bt.toNat = (ws.take bt.toNat ++ [w] ++ ws.drop bt.toNat).map D.str := by
          rw [List.map_append, List.map_append, List.map_take, List.map_drop]
          rfl
        rw [e]
        refine hJ _ _ ⟨_, _, _, _, _, _, gM4.set (by omega) _, set_other hm4 (by omega), set_same hw4, ?_, by simp, fun p hp => ?_, rfl⟩
        · have a := tot_cut ws bt.toNat
          rw [tot_app, tot_app, tot_cons, tot_nil]
          omega
        · rcases List.mem_append.mp hp with hp | hp
          · rcases List.mem_append.mp hp with hp | hp
            · exact wtx p (List.mem_of_mem_take hp)
            · rw [List.mem_singleton.mp hp]
              exact wt
          · exact wtx p (List.mem_of_mem_drop hp)
      · walk_at "sl"
        rw [List.length_map]
        refine x_ixAny (lst_end _ _) (by omega) (by show _ < (2 : Int); omega) fun d hd => ?_
        have hd : ∃ r : Int, d = .int r ∧ 0 ≤ r ∧ r < ws.length := by
          simp only [List.mem_cons, List.not_mem_nil, or_false] at hd
          rcases hd with rfl | rfl
          · exact ⟨_, rfl, b0, b1⟩
          · exact ⟨_, rfl, by omega, by omega⟩
        obtain ⟨r, rfl, r0, r1⟩ := hd
        refine gen_app (M := M4) (P := fun M5 => wS (wF PP n) _ _ M5 _) fun M5 g5 => ?_
        have hm5 := g5 _ _ hm4
        have hw5 := g5 _ _ hw4
        have hr : r.toNat < ws.length := by omega
        have tr := tot_at hr
        have txr := wtx _ (List.getElem_mem hr)
        have at5 : atI (ws.map D.str) r = some (.str ws[r.toNat]) := by
          rw [atI_in r0 (by rw [List.length_map]; exact r1), List.getElem?_map, List.getElem?_eq_getElem hr]
          rfl
        walk_at "in"
        walk_at "sl"
        refine x_ixL hw5 at5 ?_
        refine x_addS (by rw [List.length_singleton]; unfold lim; omega) ?_
        walk_at "sl"
        refine x_ixL hw5 at5 ?_
        walk_at "sl"
        refine x_addS (by show _ + 2 ≤ lim; unfold lim; omega) ?_
        walk_at "sl"
        refine x_ixL hw5 at5 ?_
        refine x_addS (by rw [List.length_singleton]; unfold lim; omega) ?_
        walk_at "sl"
        refine x_ixL hw5 at5 ?_
        walk_at "sl"
        refine x_addS (by rw [List.length_singleton]; unfold lim; omega) ?_
        walk_at "sl"
        refine x_ixAny (lst_end _ _) (by omega) (by show _ < (4 : Int); omega) fun d hd => ?_
        have hd : ∃ x, d = .str x ∧ x.length ≤ ws[r.toNat].length + 2 ∧ TXT x := by
          have o1 : ∀ c, ([c] : List Nat).length = 1 := fun _ => rfl
          have o2 : ([94, 49] : List Nat).length = 2 := rfl
          simp only [List.mem_cons, List.not_mem_nil, or_false] at hd
          rcases hd with rfl | rfl | rfl | rfl
          · exact ⟨_, rfl, by rw [List.length_append, o1]; omega, (txt_dec (by decide)).app txr⟩
          · exact ⟨_, rfl, by rw [List.length_append, o2]; omega, txr.app (txt_dec (by decide))⟩
          · exact ⟨_, rfl, by rw [List.length_append, o1]; omega, (txt_dec (by decide)).app txr⟩
          · exact ⟨_, rfl, by rw [List.length_append, o1]; omega, txr.app (txt_dec (by decide))⟩
        obtain ⟨x, rfl, xl, xt⟩ := hd
        refine gen_app (M := M5) (P := fun M6 => wE (wF PP n) _ _ M6 _ _) fun M6 g6 => ?_
        have hm6 := g6 _ _ hm5
        have hw6 := g6 _ _ hw5
        walk_at "sl"
        refine x_putL hw6 r0 (by rw [List.length_map]; exact r1) ?_
        have e : (ws.map D.str).set r.toNat (.str x) = (ws.take r.toNat ++ [x] ++ ws.drop (r.toNat + 1)).map D.str := by
          rw [← List.map_set, List.set_eq_take_append_cons_drop, if_pos hr, List.append_assoc]
          rfl
        rw [e]
        refine hJ _ _ ⟨_, _, _, _, _, _, ((gM4.trans g5).trans g6).set (by omega) _, set_other hm6 (by omega), set_same hw6, ?_, by simp, fun p hp => ?_, rfl⟩
        · rw [tot_app, tot_app, tot_cons, tot_nil]
          omega
        · rcases List.mem_append.mp hp with hp | hp
          · rcases List.mem_append.mp hp with hp | hp
            · exact wtx p (List.mem_of_mem_take hp)
            · rw [List.mem_singleton.mp hp]
              exact xt
          · exact wtx p (List.mem_of_mem_drop hp)
    rintro σ' M5 ⟨ws', y3, y4, y5, y8, y11, g5, hm5, hw5, wt5, wne5, wtx5, rfl⟩
    have jw := join_tot (c := 32) wne5
    walk_at "sl"
    refine x_rcvJ ?_
    walk_at "sl"
    refine x_rcvJ ?_
    walk_at "sl"
    refine x_joinT (l := ws') (by walk_at "at") (by unfold lim; omega) ?_
    walk_at "sl"
    have tt : tot (l.take pl'.toNat ++ [joinC [32] ws'] ++ l.drop (pl' + 1).toNat) ≤ t.length + 5002 := by
      rw [tot_app, tot_app, tot_cons, tot_nil, show (pl' + 1).toNat = pl'.toNat + 1 by omega]
      omega
    refine x_joinT (l := l.take pl'.toNat ++ [joinC [32] ws'] ++ l.drop (pl' + 1).toNat) ?_ (by unfold lim; omega) ?_
    · rw [List.map_append, List.map_append, List.map_take, List.map_drop]
      exact lst_end _ _
    · have jt := join_tot (c := 10) (l := l.take pl'.toNat ++ [joinC [32] ws'] ++ l.drop (pl' + 1).toNat) (by simp)
      refine q _ _ (g5.trans (by walk_at "gr")) (by omega) (TXT.join (by decide) fun p hp => ?_)
      rcases List.mem_append.mp hp with hp | hp
      · rcases List.mem_append.mp hp with hp | hp
        · exact tx p (List.mem_of_mem_take hp)
        · rw [List.mem_singleton.mp hp]
          exact TXT.join (by decide) wtx5
      · exact tx p (List.mem_of_mem_drop hp)
  · walk_at "sl"
    refine x_slHS hlim a0 ?_
    exact q _ _ g1 (by rw [List.length_take]; omega) (ht.take _)
def bnd (i : Nat) : Nat := if i = 0 then 212052 else if i = 1 then 429204 else 863508
theorem bnd_le (i : Nat) : bnd i ≤ 863508 := by
  unfold bnd
  split
  · decide
  · split <;> decide
theorem law_ok {ns : List Int} (h : ns.length ≤ 63) : wF PP 20 100 [.kl (ns.map D.int)] [] (fun d _ => d = .bool true) (fun _ _ => False) := by
  refine wF_call rfl rfl ?_
  dsimp only [d_law]
  walk_at "in"
  walk_at "sl"
  refine mixed_ok (st := 0) (many := 12) (by decide) fun cs hl hc => ?_
  have hM0 : (([] : MS) ++ [MO.lst (cs.map .int)])[0]? = some (.lst (cs.map .int)) := rfl
  have hce : ∀ i, 0 ≤ ce cs i ∧ ce cs i < 2147483647 := fun i => ce_mem hc (by decide) i
  have h8 := hce 8
  generalize ([] : MS) ++ [MO.lst (cs.map .int)] = M0 at *
  walk_at "sl"
  refine x_rcvJ ?_
  walk_at "sl"
  refine lrows_by_ok hM0 (by omega) (cells_lt hc) fun ks src f m M1 g1 hm hml h0 hup hgr hneed hsl hsrc => ?_
  have hM1 := g1 _ _ hM0
  have hks := rows_len hup hsrc
  have good := good_of hup hgr hneed
  have hn : ks.map f ≠ [] := fun z => h0 (by cases ks <;> first | rfl | cases z)
  have hlen : (ks.map f).length ≤ 53 := by rw [List.length_map]; omega
  have rl := good.rl hn
  have tr : ∀ d ∈ ks.map f, TR d := fun d hd => (rl.sr d hd).tr (by omega)
  generalize ks.map f = rs at *
  walk_at "sl"
  walk_at "in"
  refine turns_all (h := .live m rs) (fun d => .str (lineV d)) (by unfold lim; omega) hm ?_ ?_
  · intro d hd
    refine ⟨_, rfl, fun R r => by walk_at "sl"; exact r, fun R r => ?_⟩
    walk_at "sl"
    have wl := (words_ok (tr d hd)).2.2.2
    exact lline_any (TR.l (tr d hd)) (by unfold lim; omega) r
  have g2 := g1.trans (Gr.app M1 [MO.lst (rs.map fun d => .str (lineV d))])
  have hM2 := g2 _ _ hM0
  have hj := lst_end M1 (MO.lst (rs.map fun d => D.str (lineV d)))
  have ej : rs.map (fun d => D.str (lineV d)) = (rs.map lineV).map .str := by rw [List.map_map]; rfl
  rw [ej] at hj hM2 g2 ⊢
  generalize M1 ++ [MO.lst ((rs.map lineV).map D.str)] = M2 at *
  have tl : tot (rs.map lineV) ≤ 212053 := by
    have s := sum_le (ps := rs.map lineV) (b := 4000) fun x hx => by
      obtain ⟨d, hd, rfl⟩ := List.mem_map.mp hx
      exact (words_ok (tr d hd)).2.2.2
    unfold tot
    rw [List.length_map] at s ⊢
    omega
  have jt := join_tot (c := 10) (l := rs.map lineV) (fun z => hn (List.map_eq_nil_iff.mp z))
  have tx : TXT (joinC [10] (rs.map lineV)) := TXT.join (by decide) fun p hp => by
    obtain ⟨d, hd, rfl⟩ := List.mem_map.mp hp
    refine TXT.join (by decide) fun w hw c hc' => ?_
    have := ((words_ok (tr d hd)).1 w hw).2 c hc'
    omega
  walk_at "sl"
  refine x_joinT hj (by unfold lim; omega) ?_
  generalize joinC [10] (rs.map lineV) = t0 at *
  walk_at "sl"
  walk_at "in"
  have n0 := Int.emod_nonneg (ce cs 8) (show (2 : Int) ≠ 0 by decide)
  have n1 := Int.emod_lt_of_pos (ce cs 8) (show (0 : Int) < 2 by decide)
  refine wFor_rng (fun i σ M' => ∃ (t : List Nat) (y : Option D), σ = [some (.kl (ns.map D.int)), some (.ref 0), some (.str t), none, y, none] ∧ Gr M2 M' ∧ t.length ≤ bnd i ∧ TXT t) ?_ ?_ ⟨t0, none, rfl, Gr.refl _, by show _ ≤ 212052; omega, tx⟩
  · rintro σ M3 ⟨t, y, rfl, g3, tl3, tx3⟩
    have tlim : t.length < lim := by
      have := bnd_le (1 + ce cs 8 % 2 - 0).toNat
      unfold lim
      omega
    refine x_seq ?_
    refine x_tryN ?_
    walk_at "sl"
    show OO none 19 40 _ _ _ _
    refine read_any (hh := none) (n := 13) tlim tx3 fun M4 g4 => ?_
    cases hr : readP t with
    | none =>
      intro a
      walk_at "sl"
      show OO (some (7, a)) 19 139 _ _ _ _
      exact refused_ok (n := 12) tlim tx3 hr fun _ => rfl
    | some rs =>
      obtain ⟨pr, hs, et⟩ := readP_some tx3 hr
      obtain ⟨l1, l2, hrow, up⟩ := slipB_facts hs
      have rne : rs ≠ [] := fun z => by rw [z] at l1; exact absurd l1 (by decide)
      have tt : tot (rs.map lineV) = t.length + 1 := by
        rw [et]
        exact (join_tot (c := 10) (fun z => rne (List.map_eq_nil_iff.mp z))).symm
      show wS _ _ _ _ _
      walk_at "in"
      walk_at "sl"
      refine slip_right_ok (n := 15) pr hs fun M5 g5 => ?_
      walk_at "sl"
      refine x_rcvJ ?_
      walk_at "sl"
      walk_at "in"
      refine turns_all (h := .free) (fun d => .str (lineV d)) (by unfold lim; omega) trivial ?_ ?_
      · intro d hd
        refine ⟨_, rfl, fun R r => by walk_at "sl"; exact r, fun R r => ?_⟩
        walk_at "sl"
        have wl := tot_mem (List.mem_map_of_mem (f := lineV) hd)
        exact lline_any ((pr d hd).l (hrow d hd)) (by omega) r
      · have ej2 : rs.map (fun d => D.str (lineV d)) = (rs.map lineV).map .str := by rw [List.map_map]; rfl
        rw [ej2]
        walk_at "sl"
        refine x_joinT (lst_end _ _) (by omega) ?_
        walk_at "sl"
        rw [show joinC [10] (rs.map lineV) = t from et.symm, decide_eq_true rfl]
  · rintro i σ M3 N hi ⟨t, y, rfl, g3, tl3, tx3⟩ hN
    have hi2 : i < 2 := by omega
    have hM3 := g3 _ _ hM2
    have b3 : bnd i ≤ 429204 := by
      rcases (show i = 0 ∨ i = 1 by omega) with e | e <;> subst e <;> decide
    have b4 : 2 * bnd i + 5100 = bnd (i + 1) := by
      rcases (show i = 0 ∨ i = 1 by omega) with e | e <;> subst e <;> rfl
    have c9 := hce (9 + (0 + (i : Int)))
    have c10 := hce (10 + (0 + (i : Int)))
    refine ⟨_, rfl, ?_⟩
    walk_at "sl"
    refine changed_ok (by omega) tx3 c9.1 c9.2 c10.1 c10.2 fun t' M4 g4 tl4 tx4 => ?_
    exact hN _ _ ⟨t', _, rfl, g3.trans g4, by omega, tx4⟩

end Sl
namespace Sl
open PySem PySem.Spec PyProof.Rows L2
def topS (i : Nat) : Stmt := PySem.Challenge.pw_primeslip_k09_texts_refused.main.body.getD i (.Pass ⟨0, 0, 0, 0⟩)
abbrev s_is_between : Stmt := topS 10
theorem sc_is_between : FnScope ["thing", "low", "high"] ["thing", "low", "high"] (defScope s_is_between) := ⟨rfl, rfl, rfl, by decide +kernel, rfl, by decide +kernel, by decide +kernel⟩
abbrev s_are_powers : Stmt := topS 13
theorem sc_are_powers : FnScope ["thing", "last", "pair"] ["thing"] (defScope s_are_powers) := ⟨rfl, rfl, rfl, by decide +kernel, rfl, by decide +kernel, by decide +kernel⟩
abbrev s_are_facts : Stmt := topS 14
theorem sc_are_facts : FnScope ["word", "facts"] ["word", "facts"] (defScope s_are_facts) := ⟨rfl, rfl, rfl, by decide +kernel, rfl, by decide +kernel, by decide +kernel⟩
abbrev s_is_row : Stmt := topS 15
theorem sc_is_row : FnScope ["thing"] ["thing"] (defScope s_is_row) := ⟨rfl, rfl, rfl, by decide +kernel, rfl, by decide +kernel, by decide +kernel⟩
abbrev s_is_slip : Stmt := topS 18
theorem sc_is_slip : FnScope ["thing", "last", "row"] ["thing"] (defScope s_is_slip) := ⟨rfl, rfl, rfl, by decide +kernel, rfl, by decide +kernel, by decide +kernel⟩
abbrev s_number_of : Stmt := topS 22
theorem sc_number_of : FnScope ["word", "sign"] ["word"] (defScope s_number_of) := ⟨rfl, rfl, rfl, by decide +kernel, rfl, by decide +kernel, by decide +kernel⟩
abbrev s_power_of : Stmt := topS 23
theorem sc_power_of : FnScope ["word", "parts"] ["word"] (defScope s_power_of) := ⟨rfl, rfl, rfl, by decide +kernel, rfl, by decide +kernel, by decide +kernel⟩
abbrev s_row_of : Stmt := topS 24
theorem sc_row_of : FnScope ["line", "words", "powers", "word"] ["line"] (defScope s_row_of) := ⟨rfl, rfl, rfl, by decide +kernel, rfl, by decide +kernel, by decide +kernel⟩
abbrev s_read : Stmt := topS 25
theorem sc_read : FnScope ["text", "slip", "line"] ["text"] (defScope s_read) := ⟨rfl, rfl, rfl, by decide +kernel, rfl, by decide +kernel, by decide +kernel⟩
abbrev s__law_cell_at : Stmt := topS 27
theorem sc__law_cell_at : FnScope ["_law_script", "_law_k"] ["_law_script", "_law_k"] (defScope s__law_cell_at) := ⟨rfl, rfl, rfl, by decide +kernel, rfl, by decide +kernel, by decide +kernel⟩
abbrev s__law_mixed : Stmt := topS 28
theorem sc__law_mixed : FnScope ["_law_script", "_law_start", "_law_many", "_law_found", "_law_more", "_law_k"] ["_law_script", "_law_start", "_law_many"] (defScope s__law_mixed) := ⟨rfl, rfl, rfl, by decide +kernel, rfl, by decide +kernel, by decide +kernel⟩
abbrev s__law_power : Stmt := topS 29
theorem sc__law_power : FnScope ["_law_base", "_law_exponent", "_law_by", "_law_bits", "_law_found", "_law_bit"] ["_law_base", "_law_exponent", "_law_by"] (defScope s__law_power) := ⟨rfl, rfl, rfl, by decide +kernel, rfl, by decide +kernel, by decide +kernel⟩
abbrev s__law_round : Stmt := topS 30
theorem sc__law_round : FnScope ["_law_number", "_law_base", "_law_powers", "_law_q", "_law_times"] ["_law_number", "_law_base", "_law_powers"] (defScope s__law_round) := ⟨rfl, rfl, rfl, by decide +kernel, rfl, by decide +kernel, by decide +kernel⟩
abbrev s__law_is_prime : Stmt := topS 31
theorem sc__law_is_prime : FnScope ["_law_number", "_law_at"] ["_law_number"] (defScope s__law_is_prime) := ⟨rfl, rfl, rfl, by decide +kernel, rfl, by decide +kernel, by decide +kernel⟩
abbrev s__law_factors : Stmt := topS 32
theorem sc__law_factors : FnScope ["_law_number", "_law_found", "_law_at", "_law_times"] ["_law_number"] (defScope s__law_factors) := ⟨rfl, rfl, rfl, by decide +kernel, rfl, by decide +kernel, by decide +kernel⟩
abbrev s__law_prime_row : Stmt := topS 33
theorem sc__law_prime_row : FnScope ["_law_number", "_law_cell", "_law_powers", "_law_base"] ["_law_number", "_law_cell"] (defScope s__law_prime_row) := ⟨rfl, rfl, rfl, by decide +kernel, rfl, by decide +kernel, by decide +kernel⟩
abbrev s__law_parted_row : Stmt := topS 34
theorem sc__law_parted_row : FnScope ["_law_number", "_law_cell", "_law_parts", "_law_at", "_law_roots", "_law_a", "_law_base"] ["_law_number", "_law_cell"] (defScope s__law_parted_row) := ⟨rfl, rfl, rfl, by decide +kernel, rfl, by decide +kernel, by decide +kernel⟩
abbrev s__law_big_row : Stmt := topS 35
theorem sc__law_big_row : FnScope ["_law_cell", "_law_some", "_law_number", "_law_base", "_law_powers"] ["_law_cell"] (defScope s__law_big_row) := ⟨rfl, rfl, rfl, by decide +kernel, rfl, by decide +kernel, by decide +kernel⟩
abbrev s__law_great_row : Stmt := topS 36
theorem sc__law_great_row : FnScope ["_law_cell", "_law_more", "_law_a", "_law_b"] ["_law_cell", "_law_more"] (defScope s__law_great_row) := ⟨rfl, rfl, rfl, by decide +kernel, rfl, by decide +kernel, by decide +kernel⟩
abbrev s__law_needs : Stmt := topS 37
theorem sc__law_needs : FnScope ["_law_row", "_law_q", "_law_times"] ["_law_row"] (defScope s__law_needs) := ⟨rfl, rfl, rfl, by decide +kernel, rfl, by decide +kernel, by decide +kernel⟩
abbrev s__law_closed : Stmt := topS 38
theorem sc__law_closed : FnScope ["_law_rows", "_law_waiting", "_law_cells", "_law_here", "_law_cell", "_law_number"] ["_law_rows", "_law_waiting", "_law_cells"] (defScope s__law_closed) := ⟨rfl, rfl, rfl, by decide +kernel, rfl, by decide +kernel, by decide +kernel⟩
abbrev s__law_rows_by : Stmt := topS 39
theorem sc__law_rows_by : FnScope ["_law_cells", "_law_rows", "_law_waiting", "_law_k", "_law_row"] ["_law_cells"] (defScope s__law_rows_by) := ⟨rfl, rfl, rfl, by decide +kernel, rfl, by decide +kernel, by decide +kernel⟩
abbrev s__law_rising : Stmt := topS 40
theorem sc__law_rising : FnScope ["_law_powers", "_law_last", "_law_pair"] ["_law_powers"] (defScope s__law_rising) := ⟨rfl, rfl, rfl, by decide +kernel, rfl, by decide +kernel, by decide +kernel⟩
abbrev s__law_within : Stmt := topS 41
theorem sc__law_within : FnScope ["_law_thing", "_law_low", "_law_high"] ["_law_thing", "_law_low", "_law_high"] (defScope s__law_within) := ⟨rfl, rfl, rfl, by decide +kernel, rfl, by decide +kernel, by decide +kernel⟩
abbrev s__law_row_right : Stmt := topS 42
theorem sc__law_row_right : FnScope ["_law_row", "_law_facts"] ["_law_row"] (defScope s__law_row_right) := ⟨rfl, rfl, rfl, by decide +kernel, rfl, by decide +kernel, by decide +kernel⟩
abbrev s__law_line : Stmt := topS 43
theorem sc__law_line : FnScope ["_law_row", "_law_text", "_law_q", "_law_times", "_law_number"] ["_law_row"] (defScope s__law_line) := ⟨rfl, rfl, rfl, by decide +kernel, rfl, by decide +kernel, by decide +kernel⟩
abbrev s__law_slip_right : Stmt := topS 44
theorem sc__law_slip_right : FnScope ["_law_slip", "_law_row", "_law_k"] ["_law_slip"] (defScope s__law_slip_right) := ⟨rfl, rfl, rfl, by decide +kernel, rfl, by decide +kernel, by decide +kernel⟩
abbrev s__law_changed : Stmt := topS 45
theorem sc__law_changed : FnScope ["_law_text", "_law_cell", "_law_more", "_law_at", "_law_signs", "_law_sign", "_law_lines", "_law_place", "_law_powers", "_law_k", "_law_words", "_law_put"] ["_law_text", "_law_cell", "_law_more"] (defScope s__law_changed) := ⟨rfl, rfl, rfl, by decide +kernel, rfl, by decide +kernel, by decide +kernel⟩
abbrev s__law_refused : Stmt := topS 46
theorem sc__law_refused : FnScope ["_law_text", "e", "_law_other"] ["_law_text"] (defScope s__law_refused) := ⟨rfl, rfl, rfl, by decide +kernel, rfl, by decide +kernel, by decide +kernel⟩
abbrev s_law : Stmt := topS 47
theorem sc_law : FnScope ["_law_script", "_law_cells", "_law_text", "_law_row", "_law_k", "_law_found"] ["_law_script"] (defScope s_law) := ⟨rfl, rfl, rfl, by decide +kernel, rfl, by decide +kernel, by decide +kernel⟩
structure Txt (K : PySem.W.Frag) (mg : Str → Option Value) (cv tv : Nat → Value) : Prop where
  y_NoText : Xc K mg "NoText" (cv 7)
  x_SlipError : Xc K mg "SlipError" (tv 0)
  v_1 : tv 1 = .type "ValueError"
  x_NoNumber : Xc K mg "NoNumber" (tv 2)
  x_NoSlip : Xc K mg "NoSlip" (tv 3)
  x_NoRow : Xc K mg "NoRow" (tv 4)
  x_NotHeld : Xc K mg "NotHeld" (tv 5)
  x_Needed : Xc K mg "Needed" (tv 6)
  x_NoText : Xc K mg "NoText" (tv 7)
  r : ∀ c, Xr K (cv c)
  t_0 : ∀ c, PySem.W.kitOne K (cv c) (tv 0) = some (excLe c 0)
  t_1 : ∀ c, PySem.W.kitOne K (cv c) (tv 1) = some (excLe c 1)
  t_2 : ∀ c, PySem.W.kitOne K (cv c) (tv 2) = some (excLe c 2)
  t_3 : ∀ c, PySem.W.kitOne K (cv c) (tv 3) = some (excLe c 3)
  t_4 : ∀ c, PySem.W.kitOne K (cv c) (tv 4) = some (excLe c 4)
  t_5 : ∀ c, PySem.W.kitOne K (cv c) (tv 5) = some (excLe c 5)
  t_6 : ∀ c, PySem.W.kitOne K (cv c) (tv 6) = some (excLe c 6)
  t_7 : ∀ c, PySem.W.kitOne K (cv c) (tv 7) = some (excLe c 7)
  m_0 : ∀ c, PySem.W.exmOne K (cv c) (tv 0) = some (excLe c 0)
  m_7 : ∀ c, PySem.W.exmOne K (cv c) (tv 7) = some (excLe c 7)
  z_ValueError : mg "ValueError" = none
  z_all : mg "all" = none
  z_bool : mg "bool" = none
  z_int : mg "int" = none
  z_isinstance : mg "isinstance" = none
  z_len : mg "len" = none
  z_range : mg "range" = none
  z_reversed : mg "reversed" = none
  z_sorted : mg "sorted" = none
  z_str : mg "str" = none
  z_tuple : mg "tuple" = none
  k_BOUND : Kg K mg "BOUND" (.int 1000000000000000000000000000000)
  k_FIGURES : Kg K mg "FIGURES" (.str [48, 49, 50, 51, 52, 53, 54, 55, 56, 57])
  k_MOST_FIGURES : Kg K mg "MOST_FIGURES" (.int 31)
  k_MOST_ROWS : Kg K mg "MOST_ROWS" (.int 200)
  k_MOST_TIMES : Kg K mg "MOST_TIMES" (.int 100)
  f_is_between : Fu K mg "is_between" s_is_between ["thing", "low", "high"]
  f_are_powers : Fu K mg "are_powers" s_are_powers ["thing"]
  f_are_facts : Fu K mg "are_facts" s_are_facts ["word", "facts"]
  f_is_row : Fu K mg "is_row" s_is_row ["thing"]
  f_is_slip : Fu K mg "is_slip" s_is_slip ["thing"]
  f_number_of : Fu K mg "number_of" s_number_of ["word"]
  f_power_of : Fu K mg "power_of" s_power_of ["word"]
  f_row_of : Fu K mg "row_of" s_row_of ["line"]
  f_read : Fu K mg "read" s_read ["text"]
  f__law_cell_at : Fu K mg "_law_cell_at" s__law_cell_at ["_law_script", "_law_k"]
  f__law_mixed : Fu K mg "_law_mixed" s__law_mixed ["_law_script", "_law_start", "_law_many"]
  f__law_power : Fu K mg "_law_power" s__law_power ["_law_base", "_law_exponent", "_law_by"]
  f__law_round : Fu K mg "_law_round" s__law_round ["_law_number", "_law_base", "_law_powers"]
  f__law_is_prime : Fu K mg "_law_is_prime" s__law_is_prime ["_law_number"]
  f__law_factors : Fu K mg "_law_factors" s__law_factors ["_law_number"]
  f__law_prime_row : Fu K mg "_law_prime_row" s__law_prime_row ["_law_number", "_law_cell"]
  f__law_parted_row : Fu K mg "_law_parted_row" s__law_parted_row ["_law_number", "_law_cell"]
  f__law_big_row : Fu K mg "_law_big_row" s__law_big_row ["_law_cell"]
  f__law_great_row : Fu K mg "_law_great_row" s__law_great_row ["_law_cell", "_law_more"]
  f__law_needs : Fu K mg "_law_needs" s__law_needs ["_law_row"]
  f__law_closed : Fu K mg "_law_closed" s__law_closed ["_law_rows", "_law_waiting", "_law_cells"]
  f__law_rows_by : Fu K mg "_law_rows_by" s__law_rows_by ["_law_cells"]
  f__law_rising : Fu K mg "_law_rising" s__law_rising ["_law_powers"]
  f__law_within : Fu K mg "_law_within" s__law_within ["_law_thing", "_law_low", "_law_high"]
  f__law_row_right : Fu K mg "_law_row_right" s__law_row_right ["_law_row"]
  f__law_line : Fu K mg "_law_line" s__law_line ["_law_row"]
  f__law_slip_right : Fu K mg "_law_slip_right" s__law_slip_right ["_law_slip"]
  f__law_changed : Fu K mg "_law_changed" s__law_changed ["_law_text", "_law_cell", "_law_more"]
  f__law_refused : Fu K mg "_law_refused" s__law_refused ["_law_text"]
  f_law : Fu K mg "law" s_law ["_law_script"]
structure Cls (P : Program) (w : World) (K : PySem.W.Frag) (mg : Str → Option Value) (base : Heap) (cv : Nat → Value) (n : Nat) : Prop where
  c_is_between : Cl P w K mg base cv (wF PP n) n "is_between" 10 3
  c_are_powers : Cl P w K mg base cv (wF PP n) n "are_powers" 14 1
  c_are_facts : Cl P w K mg base cv (wF PP n) n "are_facts" 15 2
  c_is_row : Cl P w K mg base cv (wF PP n) n "is_row" 16 1
  c_is_slip : Cl P w K mg base cv (wF PP n) n "is_slip" 22 1
  c_number_of : Cl P w K mg base cv (wF PP n) n "number_of" 37 1
  c_power_of : Cl P w K mg base cv (wF PP n) n "power_of" 38 1
  c_row_of : Cl P w K mg base cv (wF PP n) n "row_of" 39 1
  c_read : Cl P w K mg base cv (wF PP n) n "read" 40 1
  c__law_cell_at : Cl P w K mg base cv (wF PP n) n "_law_cell_at" 101 2
  c__law_mixed : Cl P w K mg base cv (wF PP n) n "_law_mixed" 105 3
  c__law_power : Cl P w K mg base cv (wF PP n) n "_law_power" 106 3
  c__law_round : Cl P w K mg base cv (wF PP n) n "_law_round" 107 3
  c__law_is_prime : Cl P w K mg base cv (wF PP n) n "_law_is_prime" 108 1
  c__law_factors : Cl P w K mg base cv (wF PP n) n "_law_factors" 109 1
  c__law_prime_row : Cl P w K mg base cv (wF PP n) n "_law_prime_row" 110 2
  c__law_parted_row : Cl P w K mg base cv (wF PP n) n "_law_parted_row" 111 2
  c__law_big_row : Cl P w K mg base cv (wF PP n) n "_law_big_row" 112 1
  c__law_great_row : Cl P w K mg base cv (wF PP n) n "_law_great_row" 113 2
  c__law_needs : Cl P w K mg base cv (wF PP n) n "_law_needs" 114 1
  c__law_closed : Cl P w K mg base cv (wF PP n) n "_law_closed" 115 3
  c__law_rows_by : Cl P w K mg base cv (wF PP n) n "_law_rows_by" 116 1
  c__law_rising : Cl P w K mg base cv (wF PP n) n "_law_rising" 123 1
  c__law_within : Cl P w K mg base cv (wF PP n) n "_law_within" 124 3
  c__law_row_right : Cl P w K mg base cv (wF PP n) n "_law_row_right" 125 1
  c__law_line : Cl P w K mg base cv (wF PP n) n "_law_line" 136 1
  c__law_slip_right : Cl P w K mg base cv (wF PP n) n "_law_slip_right" 138 1
  c__law_changed : Cl P w K mg base cv (wF PP n) n "_law_changed" 132 3
  c_law : Cl P w K mg base cv (wF PP n) n "law" 100 1
  v_is_between : ClV P w K mg base cv (wF PP n) n "is_between" 10 3
  v_are_powers : ClV P w K mg base cv (wF PP n) n "are_powers" 14 1
  v_are_facts : ClV P w K mg base cv (wF PP n) n "are_facts" 15 2
  v_is_row : ClV P w K mg base cv (wF PP n) n "is_row" 16 1
  v_is_slip : ClV P w K mg base cv (wF PP n) n "is_slip" 22 1
  v_number_of : ClV P w K mg base cv (wF PP n) n "number_of" 37 1
  v_power_of : ClV P w K mg base cv (wF PP n) n "power_of" 38 1
  v_row_of : ClV P w K mg base cv (wF PP n) n "row_of" 39 1
  v_read : ClV P w K mg base cv (wF PP n) n "read" 40 1
  v__law_refused : ClV P w K mg base cv (wF PP n) n "_law_refused" 139 1
section
variable {P : Program} {w : World} {K : PySem.W.Frag} {mg : Str → Option Value} {base : Heap} {cv tv : Nat → Value} {n : Nat}
theorem okv_is_between (T : Txt K mg cv tv) (I : Cls P w K mg base cv n) {fa : Addr} {fd : FuncData} (F : Fun K "is_between" "is_between" s_is_between fa fd) : FnV P w K mg base cv (wF PP (n + 1)) (n + 1) fa fd ["thing", "low", "high"] 10 :=
  fnv_mk (d := d_is_between) rfl F sc_is_between rfl rfl fun cdv A outer s H E a c oe hr hot tk pn =>
  (db_one (ds_ret (de_and (disi .int T.z_isinstance T.z_int (dv 0)) (de_and (de_not (disi .bool T.z_isinstance T.z_bool (dv 0))) (pe_one (dchn od_le od_le (dv 1) (dv 0) (dv 2)))))))
theorem okv_are_powers (T : Txt K mg cv tv) (I : Cls P w K mg base cv n) {fa : Addr} {fd : FuncData} (F : Fun K "are_powers" "are_powers" s_are_powers fa fd) : FnV P w K mg base cv (wF PP (n + 1)) (n + 1) fa fd ["thing"] 14 :=
  fnv_mk (d := d_are_powers) rfl F sc_are_powers rfl rfl fun cdv A outer s H E a c oe hr hot tk pn =>
  (db_cons (ds_ife (dpw (dw_or (dt_not (dval (disi .tuple T.z_isinstance T.z_tuple (dv 0)))) (dw_one (dtc (od_eq (unH hr)) (dbi cd_len T.z_len (dcons (dv 0) da_nil)) dci))))
  (db_one (ds_ret dcb))
  db_nil)
  (db_cons (ds_set 1 sc_are_powers.nd dci)
  (db_cons (ds_frG (Ct := HotG) pn (hotg1 hot List.mem_cons_self) (dl_tupG (dv 0)) (gn 2 sc_are_powers.nd) tg_name
  (db_cons (ds_ife (dpw (dw_or (dt_not (dval (disi .tuple T.z_isinstance T.z_tuple (dv 2)))) (dw_or (dtc (od_ne (unH hr)) (dbi cd_len T.z_len (dcons (dv 2) da_nil)) dci) (dw_one (dt_not (dval (dcallV I.v_is_between ⟨hr.dp, hr.un⟩ hot List.mem_cons_self tk (dcons (didx (huH hr) (dv 2) dci) (dcons (dbin od_add (dv 1) dci) (dcons (dcg T.k_BOUND) da_nil))))))))))
  (db_one (ds_ret dcb))
  db_nil)
  (db_cons (ds_ife (dt_not (dval (dcallV I.v_is_between ⟨hr.dp, hr.un⟩ hot List.mem_cons_self tk (dcons (didx (huH hr) (dv 2) dci) (dcons dci (dcons (dcg T.k_MOST_TIMES) da_nil))))))
  (db_one (ds_ret dcb))
  db_nil)
  (db_one (ds_set 1 sc_are_powers.nd (didx (huH hr) (dv 2) dci))))))
  (db_one (ds_ret dcb)))))
theorem okv_are_facts (T : Txt K mg cv tv) (I : Cls P w K mg base cv n) {fa : Addr} {fd : FuncData} (F : Fun K "are_facts" "are_facts" s_are_facts fa fd) : FnV P w K mg base cv (wF PP (n + 1)) (n + 1) fa fd ["word", "facts"] 15 :=
  fnv_mk (d := d_are_facts) rfl F sc_are_facts rfl rfl fun cdv A outer s H E a c oe hr hot tk pn =>
  (db_cons (ds_ife (dtc (od_eq (unH hr)) (dv 0) dcs)
  (db_one (ds_ret (dcmp (od_eq (unH hr)) (dbi cd_len T.z_len (dcons (dv 1) da_nil)) dci)))
  db_nil)
  (db_cons (ds_ife (dtc (od_eq (unH hr)) (dv 0) dcs)
  (db_one (ds_ret (de_and (dcmp (od_eq (unH hr)) (dbi cd_len T.z_len (dcons (dv 1) da_nil)) dci) (de_and (dcallV I.v_is_between ⟨hr.dp, hr.un⟩ hot List.mem_cons_self tk (dcons (didx (huH hr) (dv 1) dci) (dcons dci (dcons (dcg T.k_BOUND) da_nil)))) (pe_one (dcallV I.v_are_powers ⟨hr.dp, hr.un⟩ hot List.mem_cons_self tk (dcons (didx (huH hr) (dv 1) dci) da_nil)))))))
  db_nil)
  (db_cons (ds_ife (dtc (od_eq (unH hr)) (dv 0) dcs)
  (db_one (ds_ret (de_and (dcmp (od_eq (unH hr)) (dbi cd_len T.z_len (dcons (dv 1) da_nil)) dci) (de_and (dcallV I.v_is_between ⟨hr.dp, hr.un⟩ hot List.mem_cons_self tk (dcons (didx (huH hr) (dv 1) dci) (dcons dci (dcons (dcg T.k_BOUND) da_nil)))) (pe_one (dcallV I.v_is_between ⟨hr.dp, hr.un⟩ hot List.mem_cons_self tk (dcons (didx (huH hr) (dv 1) dci) (dcons dci (dcons (dcg T.k_BOUND) da_nil)))))))))
  db_nil)
  (db_cons (ds_ife (dpw (dw_or (dtc (od_eq (unH hr)) (dv 0) dcs) (dw_one (dtc (od_eq (unH hr)) (dv 0) dcs))))
  (db_one (ds_ret (de_and (dcmp (od_eq (unH hr)) (dbi cd_len T.z_len (dcons (dv 1) da_nil)) dci) (pe_one (dcallV I.v_is_between ⟨hr.dp, hr.un⟩ hot List.mem_cons_self tk (dcons (didx (huH hr) (dv 1) dci) (dcons dci (dcons (dcg T.k_BOUND) da_nil))))))))
  db_nil)
  (db_one (ds_ret dcb))))))
theorem okv_is_row (T : Txt K mg cv tv) (I : Cls P w K mg base cv n) {fa : Addr} {fd : FuncData} (F : Fun K "is_row" "is_row" s_is_row fa fd) : FnV P w K mg base cv (wF PP (n + 1)) (n + 1) fa fd ["thing"] 16 :=
  fnv_mk (d := d_is_row) rfl F sc_is_row rfl rfl fun cdv A outer s H E a c oe hr hot tk pn =>
  (db_cons (ds_ife (dpw (dw_or (dt_not (dval (disi .tuple T.z_isinstance T.z_tuple (dv 0)))) (dw_or (dtc (od_ne (unH hr)) (dbi cd_len T.z_len (dcons (dv 0) da_nil)) dci) (dw_one (dt_not (dval (dcallV I.v_is_between ⟨hr.dp, hr.un⟩ hot List.mem_cons_self tk (dcons (didx (huH hr) (dv 0) dci) (dcons dci (dcons (dcg T.k_BOUND) da_nil))))))))))
  (db_one (ds_ret dcb))
  db_nil)
  (db_one (ds_ret (de_and (disi .str T.z_isinstance T.z_str (didx (huH hr) (dv 0) dci)) (de_and (disi .tuple T.z_isinstance T.z_tuple (didx (huH hr) (dv 0) dci)) (pe_one (dcallV I.v_are_facts ⟨hr.dp, hr.un⟩ hot List.mem_cons_self tk (dcons (didx (huH hr) (dv 0) dci) (dcons (didx (huH hr) (dv 0) dci) da_nil)))))))))
theorem okv_is_slip (T : Txt K mg cv tv) (I : Cls P w K mg base cv n) {fa : Addr} {fd : FuncData} (F : Fun K "is_slip" "is_slip" s_is_slip fa fd) : FnV P w K mg base cv (wF PP (n + 1)) (n + 1) fa fd ["thing"] 22 :=
  fnv_mk (d := d_is_slip) rfl F sc_is_slip rfl rfl fun cdv A outer s H E a c oe hr hot tk pn =>
  (db_cons (ds_ife (dpw (dw_or (dt_not (dval (disi .tuple T.z_isinstance T.z_tuple (dv 0)))) (dw_one (dt_not (dtch od_le od_le dci (dbi cd_len T.z_len (dcons (dv 0) da_nil)) (dcg T.k_MOST_ROWS))))))
  (db_one (ds_ret dcb))
  db_nil)
  (db_cons (ds_set 1 sc_is_slip.nd dci)
  (db_cons (ds_frG (Ct := HotG) pn (hotg1 hot List.mem_cons_self) (dl_tupG (dv 0)) (gn 2 sc_is_slip.nd) tg_name
  (db_cons (ds_ife (dpw (dw_or (dt_not (dval (dcallV I.v_is_row ⟨hr.dp, hr.un⟩ hot List.mem_cons_self tk (dcons (dv 2) da_nil)))) (dw_one (dtc od_le (didx (huH hr) (dv 2) dci) (dv 1)))))
  (db_one (ds_ret dcb))
  db_nil)
  (db_one (ds_set 1 sc_is_slip.nd (didx (huH hr) (dv 2) dci)))))
  (db_one (ds_ret dcb)))))
theorem okv_number_of (T : Txt K mg cv tv) (I : Cls P w K mg base cv n) {fa : Addr} {fd : FuncData} (F : Fun K "number_of" "number_of" s_number_of fa fd) : FnV P w K mg base cv (wF PP (n + 1)) (n + 1) fa fd ["word"] 37 :=
  fnv_mk (d := d_number_of) rfl F sc_number_of rfl rfl fun cdv A outer s H E a c oe hr hot tk pn =>
  (db_cons (ds_frG (Ct := HotG) pn (hotg1 hot List.mem_cons_self) (dl_strG (dv 0)) (gn 1 sc_number_of.nd) tg_name
  (db_one (ds_ife (dtc (od_notin (huH hr)) (dv 1) (dcg T.k_FIGURES))
  (db_one (ds_raiseV T.y_NoText (T.r 7) hot List.mem_cons_self tk))
  db_nil)))
  (db_cons (ds_ife (dpw (dw_or (dt_not (dtch od_le od_le dci (dbi cd_len T.z_len (dcons (dv 0) da_nil)) (dcg T.k_MOST_FIGURES))) (dw_one (dtc (od_eq (unH hr)) (didx (huH hr) (dv 0) dci) dcs))))
  (db_one (ds_raiseV T.y_NoText (T.r 7) hot List.mem_cons_self tk))
  db_nil)
  (db_one (ds_ret (dbt cd_parse T.z_int (dcons (dv 0) da_nil))))))
theorem okv_power_of (T : Txt K mg cv tv) (I : Cls P w K mg base cv n) {fa : Addr} {fd : FuncData} (F : Fun K "power_of" "power_of" s_power_of fa fd) : FnV P w K mg base cv (wF PP (n + 1)) (n + 1) fa fd ["word"] 38 :=
  fnv_mk (d := d_power_of) rfl F sc_power_of rfl rfl fun cdv A outer s H E a c oe hr hot tk pn =>
  (db_cons (ds_set 1 sc_power_of.nd (dm1 PySem.F.plainAttrs_str PySem.F.slot_str_split PySem.F.type_str_split md_split (dv 0) (dcons dcs da_nil)))
  (db_cons (ds_ife (dtc (od_ne (unH hr)) (dbi cd_len T.z_len (dcons (dv 1) da_nil)) dci)
  (db_one (ds_raiseV T.y_NoText (T.r 7) hot List.mem_cons_self tk))
  db_nil)
  (db_one (ds_ret (de_tup (dcons (dcallV I.v_number_of ⟨hr.dp, hr.un⟩ hot List.mem_cons_self tk (dcons (didx (huH hr) (dv 1) dci) da_nil)) (dcons (dcallV I.v_number_of ⟨hr.dp, hr.un⟩ hot List.mem_cons_self tk (dcons (didx (huH hr) (dv 1) dci) da_nil)) da_nil)))))))
theorem okv_row_of (T : Txt K mg cv tv) (I : Cls P w K mg base cv n) {fa : Addr} {fd : FuncData} (F : Fun K "row_of" "row_of" s_row_of fa fd) : FnV P w K mg base cv (wF PP (n + 1)) (n + 1) fa fd ["line"] 39 :=
  fnv_mk (d := d_row_of) rfl F sc_row_of rfl rfl fun cdv A outer s H E a c oe hr hot tk pn =>
  (db_cons (ds_set 1 sc_row_of.nd (dm1 PySem.F.plainAttrs_str PySem.F.slot_str_split PySem.F.type_str_split md_split (dv 0) (dcons dcs da_nil)))
  (db_cons (ds_ife (dtc od_lt (dbi cd_len T.z_len (dcons (dv 1) da_nil)) dci)
  (db_one (ds_raiseV T.y_NoText (T.r 7) hot List.mem_cons_self tk))
  db_nil)
  (db_cons (ds_ife (dpw (dw_and (dtc (od_eq (unH hr)) (didx (huH hr) (dv 1) dci) dcs) (dw_one (dtc od_gt (dbi cd_len T.z_len (dcons (dv 1) da_nil)) dci))))
  (db_cons (ds_set 2 sc_row_of.nd (dbt cd_tuple T.z_tuple (dcons (dcompE (Ct := HotG) [("word", 3)] (hotg1 hot List.mem_cons_self) (fun _ _ _ _ => (hotg1 hot List.mem_cons_self)) tk sc_row_of.nd (dl_lstG (de_slice (dv 1) (do_some dci) do_none)) tg_name (fun _ _ _ _ _ => (gn 3 sc_row_of.nd)) (fun _ _ _ _ _ _ tk => (dcallV I.v_power_of ⟨hr.dp, hr.un⟩ hot List.mem_cons_self tk (dcons (dv 3) da_nil)))) da_nil)))
  (db_one (ds_ret (de_tup (dcons (dcallV I.v_number_of ⟨hr.dp, hr.un⟩ hot List.mem_cons_self tk (dcons (didx (huH hr) (dv 1) dci) da_nil)) (dcons (didx (huH hr) (dv 1) dci) (dcons (de_tup (dcons (dcallV I.v_number_of ⟨hr.dp, hr.un⟩ hot List.mem_cons_self tk (dcons (didx (huH hr) (dv 1) dci) da_nil)) (dcons (dv 2) da_nil))) da_nil)))))))
  db_nil)
  (db_one (ds_ret (de_tup (dcons (dcallV I.v_number_of ⟨hr.dp, hr.un⟩ hot List.mem_cons_self tk (dcons (didx (huH hr) (dv 1) dci) da_nil)) (dcons (didx (huH hr) (dv 1) dci) (dcons (dbt cd_tuple T.z_tuple (dcons (dcompE (Ct := HotG) [("word", 3)] (hotg1 hot List.mem_cons_self) (fun _ _ _ _ => (hotg1 hot List.mem_cons_self)) tk sc_row_of.nd (dl_lstG (de_slice (dv 1) (do_some dci) do_none)) tg_name (fun _ _ _ _ _ => (gn 3 sc_row_of.nd)) (fun _ _ _ _ _ _ tk => (dcallV I.v_number_of ⟨hr.dp, hr.un⟩ hot List.mem_cons_self tk (dcons (dv 3) da_nil)))) da_nil)) da_nil)))))))))
theorem okv_read (T : Txt K mg cv tv) (I : Cls P w K mg base cv n) {fa : Addr} {fd : FuncData} (F : Fun K "read" "read" s_read fa fd) : FnV P w K mg base cv (wF PP (n + 1)) (n + 1) fa fd ["text"] 40 :=
  fnv_mk (d := d_read) rfl F sc_read rfl rfl fun cdv A outer s H E a c oe hr hot tk pn =>
  (db_cons (ds_set 1 sc_read.nd (dbt cd_tuple T.z_tuple (dcons (dcompE (Ct := HotG) [("line", 2)] (hotg1 hot List.mem_cons_self) (fun _ _ _ _ => (hotg1 hot List.mem_cons_self)) tk sc_read.nd (dl_lstG (dm1 PySem.F.plainAttrs_str PySem.F.slot_str_split PySem.F.type_str_split md_split (dv 0) (dcons dcs da_nil))) tg_name (fun _ _ _ _ _ => (gn 2 sc_read.nd)) (fun _ _ _ _ _ _ tk => (dcallV I.v_row_of ⟨hr.dp, hr.un⟩ hot List.mem_cons_self tk (dcons (dv 2) da_nil)))) da_nil)))
  (db_cons (ds_ife (dt_not (dval (dcallV I.v_is_slip ⟨hr.dp, hr.un⟩ hot List.mem_cons_self tk (dcons (dv 1) da_nil))))
  (db_one (ds_raiseV T.y_NoText (T.r 7) hot List.mem_cons_self tk))
  db_nil)
  (db_one (ds_ret (dv 1)))))
theorem okv__law_refused (T : Txt K mg cv tv) (I : Cls P w K mg base cv n) {fa : Addr} {fd : FuncData} (F : Fun K "_law_refused" "_law_refused" s__law_refused fa fd) : FnV P w K mg base cv (wF PP (n + 1)) (n + 1) fa fd ["_law_text"] 139 :=
  fnv_mk (d := d__law_refused) rfl F sc__law_refused rfl rfl fun cdv A outer s H E a c oe hr hot tk pn =>
  (db_cons (ds_tryV (i := 1) (cls := 0) rfl rfl sc__law_refused.nd ⟨rfl, by decide, .inl T.x_SlipError.nm⟩ tk T.m_0 (fun _ _ _ sub tk pn => (db_one (ds_ex (dcallV I.v_read ⟨hr.dp, hr.un⟩ hot (sub _ List.mem_cons_self) tk (dcons (dv 0) da_nil)))))
  (fun a2 oe2 pn2 c2 hz hd old => (db_cons (ds_frG (Ct := HotG) PassesOwn.never (hotg_suite hot List.mem_cons_self hz hd old) (dl_lstG (de_lst (dcons (disEV 6 T.z_isinstance List.mem_cons_self hz.1 hd (T.r c2) (T.t_6 c2) (dv 1) (pe_cls T.x_Needed)) (dcons (disEV 2 T.z_isinstance List.mem_cons_self hz.1 hd (T.r c2) (T.t_2 c2) (dv 1) (pe_cls T.x_NoNumber)) (dcons (disEV 4 T.z_isinstance List.mem_cons_self hz.1 hd (T.r c2) (T.t_4 c2) (dv 1) (pe_cls T.x_NoRow)) (dcons (disEV 3 T.z_isinstance List.mem_cons_self hz.1 hd (T.r c2) (T.t_3 c2) (dv 1) (pe_cls T.x_NoSlip)) da_nil)))))) (gn 2 sc__law_refused.nd) tg_name
  (db_one (ds_ife (dval (dv 2))
  (db_one (ds_ret dcb))
  db_nil)))
  (db_one (ds_ret (de_and (disEV 7 T.z_isinstance List.mem_cons_self hz.1 hd (T.r c2) (T.t_7 c2) (dv 1) (pe_cls T.x_NoText)) (de_and (disEV 1 T.z_isinstance List.mem_cons_self hz.1 hd (T.r c2) (T.t_1 c2) (dv 1) (pe_clsB T.v_1 T.z_ValueError)) (pe_one (de_not (disEV 5 T.z_isinstance List.mem_cons_self hz.1 hd (T.r c2) (T.t_5 c2) (dv 1) (pe_cls T.x_NotHeld)))))))))))
  (db_one (ds_ret dcb)))
theorem ok_is_between (T : Txt K mg cv tv) (I : Cls P w K mg base cv n) {fa : Addr} {fd : FuncData} (F : Fun K "is_between" "is_between" s_is_between fa fd) : FnOk P w K mg base (L2N.CX P w) (n + 1) fa fd ["thing", "low", "high"] (spF K cv (wF PP (n + 1)) 10 3) :=
  fn_mk (d := d_is_between) rfl F sc_is_between rfl rfl fun cdv A outer s H E hr tk pn =>
  (db_one (ds_ret (de_and (disi .int T.z_isinstance T.z_int (dv 0)) (de_and (de_not (disi .bool T.z_isinstance T.z_bool (dv 0))) (pe_one (dchn od_le od_le (dv 1) (dv 0) (dv 2)))))))
theorem ok_are_powers (T : Txt K mg cv tv) (I : Cls P w K mg base cv n) {fa : Addr} {fd : FuncData} (F : Fun K "are_powers" "are_powers" s_are_powers fa fd) : FnOk P w K mg base (L2N.CX P w) (n + 1) fa fd ["thing"] (spF K cv (wF PP (n + 1)) 14 1) :=
  fn_mk (d := d_are_powers) rfl F sc_are_powers rfl rfl fun cdv A outer s H E hr tk pn =>
  (db_cons (ds_ife (dpw (dw_or (dt_not (dval (disi .tuple T.z_isinstance T.z_tuple (dv 0)))) (dw_one (dtc (od_eq hr.units) (dbi cd_len T.z_len (dcons (dv 0) da_nil)) dci))))
  (db_one (ds_ret dcb))
  db_nil)
  (db_cons (ds_set 1 sc_are_powers.nd dci)
  (db_cons (ds_for pn (dl_tup (dv 0)) (gn 2 sc_are_powers.nd) tg_name
  (db_cons (ds_ife (dpw (dw_or (dt_not (dval (disi .tuple T.z_isinstance T.z_tuple (dv 2)))) (dw_or (dtc (od_ne hr.units) (dbi cd_len T.z_len (dcons (dv 2) da_nil)) dci) (dw_one (dt_not (dval (dcall I.c_is_between hr tk (dcons (didx (hu_of hr) (dv 2) dci) (dcons (dbin od_add (dv 1) dci) (dcons (dcg T.k_BOUND) da_nil))))))))))
  (db_one (ds_ret dcb))
  db_nil)
  (db_cons (ds_ife (dt_not (dval (dcall I.c_is_between hr tk (dcons (didx (hu_of hr) (dv 2) dci) (dcons dci (dcons (dcg T.k_MOST_TIMES) da_nil))))))
  (db_one (ds_ret dcb))
  db_nil)
  (db_one (ds_set 1 sc_are_powers.nd (didx (hu_of hr) (dv 2) dci))))))
  (db_one (ds_ret dcb)))))
theorem ok_are_facts (T : Txt K mg cv tv) (I : Cls P w K mg base cv n) {fa : Addr} {fd : FuncData} (F : Fun K "are_facts" "are_facts" s_are_facts fa fd) : FnOk P w K mg base (L2N.CX P w) (n + 1) fa fd ["word", "facts"] (spF K cv (wF PP (n + 1)) 15 2) :=
  fn_mk (d := d_are_facts) rfl F sc_are_facts rfl rfl fun cdv A outer s H E hr tk pn =>
  (db_cons (ds_ife (dtc (od_eq hr.units) (dv 0) dcs)
  (db_one (ds_ret (dcmp (od_eq hr.units) (dbi cd_len T.z_len (dcons (dv 1) da_nil)) dci)))
  db_nil)
  (db_cons (ds_ife (dtc (od_eq hr.units) (dv 0) dcs)
  (db_one (ds_ret (de_and (dcmp (od_eq hr.units) (dbi cd_len T.z_len (dcons (dv 1) da_nil)) dci) (de_and (dcall I.c_is_between hr tk (dcons (didx (hu_of hr) (dv 1) dci) (dcons dci (dcons (dcg T.k_BOUND) da_nil)))) (pe_one (dcall I.c_are_powers hr tk (dcons (didx (hu_of hr) (dv 1) dci) da_nil)))))))
  db_nil)
  (db_cons (ds_ife (dtc (od_eq hr.units) (dv 0) dcs)
  (db_one (ds_ret (de_and (dcmp (od_eq hr.units) (dbi cd_len T.z_len (dcons (dv 1) da_nil)) dci) (de_and (dcall I.c_is_between hr tk (dcons (didx (hu_of hr) (dv 1) dci) (dcons dci (dcons (dcg T.k_BOUND) da_nil)))) (pe_one (dcall I.c_is_between hr tk (dcons (didx (hu_of hr) (dv 1) dci) (dcons dci (dcons (dcg T.k_BOUND) da_nil)))))))))
  db_nil)
  (db_cons (ds_ife (dpw (dw_or (dtc (od_eq hr.units) (dv 0) dcs) (dw_one (dtc (od_eq hr.units) (dv 0) dcs))))
  (db_one (ds_ret (de_and (dcmp (od_eq hr.units) (dbi cd_len T.z_len (dcons (dv 1) da_nil)) dci) (pe_one (dcall I.c_is_between hr tk (dcons (didx (hu_of hr) (dv 1) dci) (dcons dci (dcons (dcg T.k_BOUND) da_nil))))))))
  db_nil)
  (db_one (ds_ret dcb))))))
theorem ok_is_row (T : Txt K mg cv tv) (I : Cls P w K mg base cv n) {fa : Addr} {fd : FuncData} (F : Fun K "is_row" "is_row" s_is_row fa fd) : FnOk P w K mg base (L2N.CX P w) (n + 1) fa fd ["thing"] (spF K cv (wF PP (n + 1)) 16 1) :=
  fn_mk (d := d_is_row) rfl F sc_is_row rfl rfl fun cdv A outer s H E hr tk pn =>
  (db_cons (ds_ife (dpw (dw_or (dt_not (dval (disi .tuple T.z_isinstance T.z_tuple (dv 0)))) (dw_or (dtc (od_ne hr.units) (dbi cd_len T.z_len (dcons (dv 0) da_nil)) dci) (dw_one (dt_not (dval (dcall I.c_is_between hr tk (dcons (didx (hu_of hr) (dv 0) dci) (dcons dci (dcons (dcg T.k_BOUND) da_nil))))))))))
  (db_one (ds_ret dcb))
  db_nil)
  (db_one (ds_ret (de_and (disi .str T.z_isinstance T.z_str (didx (hu_of hr) (dv 0) dci)) (de_and (disi .tuple T.z_isinstance T.z_tuple (didx (hu_of hr) (dv 0) dci)) (pe_one (dcall I.c_are_facts hr tk (dcons (didx (hu_of hr) (dv 0) dci) (dcons (didx (hu_of hr) (dv 0) dci) da_nil)))))))))
theorem ok_is_slip (T : Txt K mg cv tv) (I : Cls P w K mg base cv n) {fa : Addr} {fd : FuncData} (F : Fun K "is_slip" "is_slip" s_is_slip fa fd) : FnOk P w K mg base (L2N.CX P w) (n + 1) fa fd ["thing"] (spF K cv (wF PP (n + 1)) 22 1) :=
  fn_mk (d := d_is_slip) rfl F sc_is_slip rfl rfl fun cdv A outer s H E hr tk pn =>
  (db_cons (ds_ife (dpw (dw_or (dt_not (dval (disi .tuple T.z_isinstance T.z_tuple (dv 0)))) (dw_one (dt_not (dtch od_le od_le dci (dbi cd_len T.z_len (dcons (dv 0) da_nil)) (dcg T.k_MOST_ROWS))))))
  (db_one (ds_ret dcb))
  db_nil)
  (db_cons (ds_set 1 sc_is_slip.nd dci)
  (db_cons (ds_for pn (dl_tup (dv 0)) (gn 2 sc_is_slip.nd) tg_name
  (db_cons (ds_ife (dpw (dw_or (dt_not (dval (dcall I.c_is_row hr tk (dcons (dv 2) da_nil)))) (dw_one (dtc od_le (didx (hu_of hr) (dv 2) dci) (dv 1)))))
  (db_one (ds_ret dcb))
  db_nil)
  (db_one (ds_set 1 sc_is_slip.nd (didx (hu_of hr) (dv 2) dci)))))
  (db_one (ds_ret dcb)))))
theorem ok_number_of (T : Txt K mg cv tv) (I : Cls P w K mg base cv n) {fa : Addr} {fd : FuncData} (F : Fun K "number_of" "number_of" s_number_of fa fd) : FnOk P w K mg base (L2N.CX P w) (n + 1) fa fd ["word"] (spF K cv (wF PP (n + 1)) 37 1) :=
  fn_mk (d := d_number_of) rfl F sc_number_of rfl rfl fun cdv A outer s H E hr tk pn =>
  (db_cons (ds_for pn (dl_str (dv 0)) (gn 1 sc_number_of.nd) tg_name
  (db_one (ds_ife (dtc (od_notin (hu_of hr)) (dv 1) (dcg T.k_FIGURES))
  (db_one (ds_raise T.y_NoText (T.r 7) rfl tk))
  db_nil)))
  (db_cons (ds_ife (dpw (dw_or (dt_not (dtch od_le od_le dci (dbi cd_len T.z_len (dcons (dv 0) da_nil)) (dcg T.k_MOST_FIGURES))) (dw_one (dtc (od_eq hr.units) (didx (hu_of hr) (dv 0) dci) dcs))))
  (db_one (ds_raise T.y_NoText (T.r 7) rfl tk))
  db_nil)
  (db_one (ds_ret (dbt cd_parse T.z_int (dcons (dv 0) da_nil))))))
theorem ok_power_of (T : Txt K mg cv tv) (I : Cls P w K mg base cv n) {fa : Addr} {fd : FuncData} (F : Fun K "power_of" "power_of" s_power_of fa fd) : FnOk P w K mg base (L2N.CX P w) (n + 1) fa fd ["word"] (spF K cv (wF PP (n + 1)) 38 1) :=
  fn_mk (d := d_power_of) rfl F sc_power_of rfl rfl fun cdv A outer s H E hr tk pn =>
  (db_cons (ds_set 1 sc_power_of.nd (dm1 PySem.F.plainAttrs_str PySem.F.slot_str_split PySem.F.type_str_split md_split (dv 0) (dcons dcs da_nil)))
  (db_cons (ds_ife (dtc (od_ne hr.units) (dbi cd_len T.z_len (dcons (dv 1) da_nil)) dci)
  (db_one (ds_raise T.y_NoText (T.r 7) rfl tk))
  db_nil)
  (db_one (ds_ret (de_tup (dcons (dcall I.c_number_of hr tk (dcons (didx (hu_of hr) (dv 1) dci) da_nil)) (dcons (dcall I.c_number_of hr tk (dcons (didx (hu_of hr) (dv 1) dci) da_nil)) da_nil)))))))
theorem ok_row_of (T : Txt K mg cv tv) (I : Cls P w K mg base cv n) {fa : Addr} {fd : FuncData} (F : Fun K "row_of" "row_of" s_row_of fa fd) : FnOk P w K mg base (L2N.CX P w) (n + 1) fa fd ["line"] (spF K cv (wF PP (n + 1)) 39 1) :=
  fn_mk (d := d_row_of) rfl F sc_row_of rfl rfl fun cdv A outer s H E hr tk pn =>
  (db_cons (ds_set 1 sc_row_of.nd (dm1 PySem.F.plainAttrs_str PySem.F.slot_str_split PySem.F.type_str_split md_split (dv 0) (dcons dcs da_nil)))
  (db_cons (ds_ife (dtc od_lt (dbi cd_len T.z_len (dcons (dv 1) da_nil)) dci)
  (db_one (ds_raise T.y_NoText (T.r 7) rfl tk))
  db_nil)
  (db_cons (ds_ife (dpw (dw_and (dtc (od_eq hr.units) (didx (hu_of hr) (dv 1) dci) dcs) (dw_one (dtc od_gt (dbi cd_len T.z_len (dcons (dv 1) da_nil)) dci))))
  (db_cons (ds_set 2 sc_row_of.nd (dbt cd_tuple T.z_tuple (dcons (dcompE (Ct := Calm) (x := .none) [("word", 3)] rfl (fun _ _ _ _ => rfl) (takes_n tk) sc_row_of.nd (pi_g (dl_lst (de_slice (dv 1) (do_some dci) do_none))) tg_name (fun _ _ _ _ _ => (gn 3 sc_row_of.nd)) (fun _ _ _ _ _ _ tk => (dcall I.c_power_of hr (n_takes tk) (dcons (dv 3) da_nil)))) da_nil)))
  (db_one (ds_ret (de_tup (dcons (dcall I.c_number_of hr tk (dcons (didx (hu_of hr) (dv 1) dci) da_nil)) (dcons (didx (hu_of hr) (dv 1) dci) (dcons (de_tup (dcons (dcall I.c_number_of hr tk (dcons (didx (hu_of hr) (dv 1) dci) da_nil)) (dcons (dv 2) da_nil))) da_nil)))))))
  db_nil)
  (db_one (ds_ret (de_tup (dcons (dcall I.c_number_of hr tk (dcons (didx (hu_of hr) (dv 1) dci) da_nil)) (dcons (didx (hu_of hr) (dv 1) dci) (dcons (dbt cd_tuple T.z_tuple (dcons (dcompE (Ct := Calm) (x := .none) [("word", 3)] rfl (fun _ _ _ _ => rfl) (takes_n tk) sc_row_of.nd (pi_g (dl_lst (de_slice (dv 1) (do_some dci) do_none))) tg_name (fun _ _ _ _ _ => (gn 3 sc_row_of.nd)) (fun _ _ _ _ _ _ tk => (dcall I.c_number_of hr (n_takes tk) (dcons (dv 3) da_nil)))) da_nil)) da_nil)))))))))
theorem ok_read (T : Txt K mg cv tv) (I : Cls P w K mg base cv n) {fa : Addr} {fd : FuncData} (F : Fun K "read" "read" s_read fa fd) : FnOk P w K mg base (L2N.CX P w) (n + 1) fa fd ["text"] (spF K cv (wF PP (n + 1)) 40 1) :=
  fn_mk (d := d_read) rfl F sc_read rfl rfl fun cdv A outer s H E hr tk pn =>
  (db_cons (ds_set 1 sc_read.nd (dbt cd_tuple T.z_tuple (dcons (dcompE (Ct := Calm) (x := .none) [("line", 2)] rfl (fun _ _ _ _ => rfl) (takes_n tk) sc_read.nd (pi_g (dl_lst (dm1 PySem.F.plainAttrs_str PySem.F.slot_str_split PySem.F.type_str_split md_split (dv 0) (dcons dcs da_nil)))) tg_name (fun _ _ _ _ _ => (gn 2 sc_read.nd)) (fun _ _ _ _ _ _ tk => (dcall I.c_row_of hr (n_takes tk) (dcons (dv 2) da_nil)))) da_nil)))
  (db_cons (ds_ife (dt_not (dval (dcall I.c_is_slip hr tk (dcons (dv 1) da_nil))))
  (db_one (ds_raise T.y_NoText (T.r 7) rfl tk))
  db_nil)
  (db_one (ds_ret (dv 1)))))
theorem ok__law_cell_at (T : Txt K mg cv tv) (I : Cls P w K mg base cv n) {fa : Addr} {fd : FuncData} (F : Fun K "_law_cell_at" "_law_cell_at" s__law_cell_at fa fd) : FnOk P w K mg base (L2N.CX P w) (n + 1) fa fd ["_law_script", "_law_k"] (spF K cv (wF PP (n + 1)) 101 2) :=
  fn_mk (d := d__law_cell_at) rfl F sc__law_cell_at rfl rfl fun cdv A outer s H E hr tk pn =>
  (db_cons (ds_ife (dtc od_lt (dv 1) (dbi cd_len T.z_len (dcons (dv 0) da_nil)))
  (db_one (ds_ret (didx (hu_of hr) (dv 0) (dv 1))))
  db_nil)
  (db_one (ds_ret dci)))
theorem ok__law_mixed (T : Txt K mg cv tv) (I : Cls P w K mg base cv n) {fa : Addr} {fd : FuncData} (F : Fun K "_law_mixed" "_law_mixed" s__law_mixed fa fd) : FnOk P w K mg base (L2N.CX P w) (n + 1) fa fd ["_law_script", "_law_start", "_law_many"] (spF K cv (wF PP (n + 1)) 105 3) :=
  fn_mk (d := d__law_mixed) rfl F sc__law_mixed rfl rfl fun cdv A outer s H E hr tk pn =>
  (db_cons (ds_set 3 sc__law_mixed.nd (de_lst da_nil))
  (db_cons (ds_set 4 sc__law_mixed.nd dci)
  (db_cons (ds_for pn (dl_rng1 rfl T.z_range (dcons (dv 2) da_nil) rfl) (gn 5 sc__law_mixed.nd) tg_name
  (db_cons (ds_set 4 sc__law_mixed.nd (dbin od_mod (dbin od_add (dbin od_add (dbin od_add (dbin od_mul (dv 4) dci) (dcall I.c__law_cell_at hr tk (dcons (dv 0) (dcons (dbin od_add (dv 1) (dv 5)) da_nil)))) (dbin od_mul dci (dv 5))) dci) dci))
  (db_one (ds_ex (dm1 PySem.F.plainAttrs_list PySem.F.slot_list_append PySem.F.type_list_append md_append (dv 3) (dcons (dv 4) da_nil))))))
  (db_one (ds_ret (dv 3))))))
theorem ok__law_power (T : Txt K mg cv tv) (I : Cls P w K mg base cv n) {fa : Addr} {fd : FuncData} (F : Fun K "_law_power" "_law_power" s__law_power fa fd) : FnOk P w K mg base (L2N.CX P w) (n + 1) fa fd ["_law_base", "_law_exponent", "_law_by"] (spF K cv (wF PP (n + 1)) 106 3) :=
  fn_mk (d := d__law_power) rfl F sc__law_power rfl rfl fun cdv A outer s H E hr tk pn =>
  (db_cons (ds_set 3 sc__law_power.nd (de_lst da_nil))
  (db_cons (ds_whl pn (dtc od_gt (dv 1) dci)
  (db_cons (ds_ex (dm1 PySem.F.plainAttrs_list PySem.F.slot_list_append PySem.F.type_list_append md_append (dv 3) (dcons (dbin od_mod (dv 1) dci) da_nil)))
  (db_one (ds_set 1 sc__law_power.nd (dbin od_fdiv (dv 1) dci)))))
  (db_cons (ds_set 4 sc__law_power.nd (dbin od_mod dci (dv 2)))
  (db_cons (ds_for pn (dl_rev rfl T.z_reversed (dcons (dv 3) da_nil) rfl) (gn 5 sc__law_power.nd) tg_name
  (db_cons (ds_set 4 sc__law_power.nd (dbin od_mod (dbin od_mul (dv 4) (dv 4)) (dv 2)))
  (db_one (ds_ife (dtc (od_eq hr.units) (dv 5) dci)
  (db_one (ds_set 4 sc__law_power.nd (dbin od_mod (dbin od_mul (dv 4) (dv 0)) (dv 2))))
  db_nil))))
  (db_one (ds_ret (dv 4)))))))
theorem ok__law_round (T : Txt K mg cv tv) (I : Cls P w K mg base cv n) {fa : Addr} {fd : FuncData} (F : Fun K "_law_round" "_law_round" s__law_round fa fd) : FnOk P w K mg base (L2N.CX P w) (n + 1) fa fd ["_law_number", "_law_base", "_law_powers"] (spF K cv (wF PP (n + 1)) 107 3) :=
  fn_mk (d := d__law_round) rfl F sc__law_round rfl rfl fun cdv A outer s H E hr tk pn =>
  (db_cons (ds_ife (dtc (od_ne hr.units) (dcall I.c__law_power hr tk (dcons (dv 1) (dcons (dbin od_sub (dv 0) dci) (dcons (dv 0) da_nil)))) dci)
  (db_one (ds_ret dcb))
  db_nil)
  (db_cons (ds_for pn (dl_tup (dv 2)) (gt [3, 4] rfl (pgs_cons (gn 3 sc__law_round.nd) (pgs_cons (gn 4 sc__law_round.nd) pgs_nil))) tg_tup
  (db_one (ds_ife (dtc (od_eq hr.units) (dcall I.c__law_power hr tk (dcons (dv 1) (dcons (dbin od_fdiv (dbin od_sub (dv 0) dci) (dv 3)) (dcons (dv 0) da_nil)))) dci)
  (db_one (ds_ret dcb))
  db_nil)))
  (db_one (ds_ret dcb))))
theorem ok__law_is_prime (T : Txt K mg cv tv) (I : Cls P w K mg base cv n) {fa : Addr} {fd : FuncData} (F : Fun K "_law_is_prime" "_law_is_prime" s__law_is_prime fa fd) : FnOk P w K mg base (L2N.CX P w) (n + 1) fa fd ["_law_number"] (spF K cv (wF PP (n + 1)) 108 1) :=
  fn_mk (d := d__law_is_prime) rfl F sc__law_is_prime rfl rfl fun cdv A outer s H E hr tk pn =>
  (db_cons (ds_set 1 sc__law_is_prime.nd dci)
  (db_cons (ds_whl pn (dtc od_le (dbin od_mul (dv 1) (dv 1)) (dv 0))
  (db_cons (ds_ife (dtc (od_eq hr.units) (dbin od_mod (dv 0) (dv 1)) dci)
  (db_one (ds_ret dcb))
  db_nil)
  (db_one (ds_set 1 sc__law_is_prime.nd (dbin od_add (dv 1) dci)))))
  (db_one (ds_ret (dcmp od_gt (dv 0) dci)))))
theorem ok__law_factors (T : Txt K mg cv tv) (I : Cls P w K mg base cv n) {fa : Addr} {fd : FuncData} (F : Fun K "_law_factors" "_law_factors" s__law_factors fa fd) : FnOk P w K mg base (L2N.CX P w) (n + 1) fa fd ["_law_number"] (spF K cv (wF PP (n + 1)) 109 1) :=
  fn_mk (d := d__law_factors) rfl F sc__law_factors rfl rfl fun cdv A outer s H E hr tk pn =>
  (db_cons (ds_set 1 sc__law_factors.nd (de_lst da_nil))
  (db_cons (ds_set 2 sc__law_factors.nd dci)
  (db_cons (ds_whl pn (dtc od_gt (dv 0) dci)
  (db_cons (ds_set 3 sc__law_factors.nd dci)
  (db_cons (ds_whl pn (dtc (od_eq hr.units) (dbin od_mod (dv 0) (dv 2)) dci)
  (db_cons (ds_set 0 sc__law_factors.nd (dbin od_fdiv (dv 0) (dv 2)))
  (db_one (ds_set 3 sc__law_factors.nd (dbin od_add (dv 3) dci)))))
  (db_cons (ds_ife (dtc od_gt (dv 3) dci)
  (db_one (ds_ex (dm1 PySem.F.plainAttrs_list PySem.F.slot_list_append PySem.F.type_list_append md_append (dv 1) (dcons (de_tup (dcons (dv 2) (dcons (dv 3) da_nil))) da_nil))))
  db_nil)
  (db_one (ds_set 2 sc__law_factors.nd (dbin od_add (dv 2) dci)))))))
  (db_one (ds_ret (dbt cd_tuple T.z_tuple (dcons (dv 1) da_nil)))))))
theorem ok__law_prime_row (T : Txt K mg cv tv) (I : Cls P w K mg base cv n) {fa : Addr} {fd : FuncData} (F : Fun K "_law_prime_row" "_law_prime_row" s__law_prime_row fa fd) : FnOk P w K mg base (L2N.CX P w) (n + 1) fa fd ["_law_number", "_law_cell"] (spF K cv (wF PP (n + 1)) 110 2) :=
  fn_mk (d := d__law_prime_row) rfl F sc__law_prime_row rfl rfl fun cdv A outer s H E hr tk pn =>
  (db_cons (ds_ife (dtc (od_eq hr.units) (dv 0) dci)
  (db_one (ds_ret (de_tup (dcons dci (dcons dcs (dcons (de_tup da_nil) da_nil))))))
  db_nil)
  (db_cons (ds_set 2 sc__law_prime_row.nd (dcall I.c__law_factors hr tk (dcons (dbin od_sub (dv 0) dci) da_nil)))
  (db_cons (ds_set 3 sc__law_prime_row.nd (dbin od_add dci (dbin od_mod (dv 1) (dbin od_sub (dv 0) dci))))
  (db_cons (ds_whl pn (dt_not (dval (dcall I.c__law_round hr tk (dcons (dv 0) (dcons (dv 3) (dcons (dv 2) da_nil))))))
  (db_one (ds_set 3 sc__law_prime_row.nd (dbin od_add (dbin od_mod (dv 3) (dbin od_sub (dv 0) dci)) dci))))
  (db_one (ds_ret (de_tup (dcons (dv 0) (dcons dcs (dcons (de_tup (dcons (dv 3) (dcons (dv 2) da_nil))) da_nil))))))))))
theorem ok__law_parted_row (T : Txt K mg cv tv) (I : Cls P w K mg base cv n) {fa : Addr} {fd : FuncData} (F : Fun K "_law_parted_row" "_law_parted_row" s__law_parted_row fa fd) : FnOk P w K mg base (L2N.CX P w) (n + 1) fa fd ["_law_number", "_law_cell"] (spF K cv (wF PP (n + 1)) 111 2) :=
  fn_mk (d := d__law_parted_row) rfl F sc__law_parted_row rfl rfl fun cdv A outer s H E hr tk pn =>
  (db_cons (ds_setC 2 [("_law_at", 3)] rfl sc__law_parted_row.nd (dl_rng2 rfl T.z_range (dcons dci (dcons (dv 0) da_nil)) rfl rfl) tg_name (fun _ _ _ _ _ => (gn 3 sc__law_parted_row.nd)) (fun _ _ _ _ _ => (dts_one (dtc (od_eq hr.units) (dbin od_mod (dv 0) (dv 3)) dci))) (fun _ _ _ _ _ => (dv 3)))
  (db_cons (ds_setC 4 [("_law_at", 3)] rfl sc__law_parted_row.nd (dl_rng2 rfl T.z_range (dcons dci (dcons (dbin od_sub (dv 0) dci) da_nil)) rfl rfl) tg_name (fun _ _ _ _ _ => (gn 3 sc__law_parted_row.nd)) (fun _ _ _ _ _ => (dts_one (dtc (od_eq hr.units) (dbin od_mod (dbin od_mul (dv 3) (dv 3)) (dv 0)) dci))) (fun _ _ _ _ _ => (dv 3)))
  (db_cons (ds_set 5 sc__law_parted_row.nd (didx (hu_of hr) (dv 2) (dbin od_mod (dbin od_fdiv (dv 1) dci) (dbi cd_len T.z_len (dcons (dv 2) da_nil)))))
  (db_cons (ds_ife (dpw (dw_and (dtc (od_eq hr.units) (dbin od_mod (dv 1) dci) dci) (dw_one (dtc od_gt (dbi cd_len T.z_len (dcons (dv 4) da_nil)) dci))))
  (db_one (ds_ret (de_tup (dcons (dv 0) (dcons dcs (dcons (de_tup (dcons (didx (hu_of hr) (dv 4) (dbin od_mod (dbin od_fdiv (dv 1) dci) (dbi cd_len T.z_len (dcons (dv 4) da_nil)))) da_nil)) da_nil))))))
  db_nil)
  (db_cons (ds_ife (dtc od_gt (dbin od_mod (dv 1) dci) dci)
  (db_one (ds_ret (de_tup (dcons (dv 0) (dcons dcs (dcons (de_tup (dcons (dv 5) (dcons (dbin od_fdiv (dv 0) (dv 5)) da_nil))) da_nil))))))
  db_nil)
  (db_cons (ds_set 6 sc__law_parted_row.nd (dbin od_add dci (dbin od_mod (dbin od_fdiv (dv 1) dci) (dbin od_sub (dv 0) dci))))
  (db_cons (ds_whl pn (dtc (od_eq hr.units) (dcall I.c__law_power hr tk (dcons (dv 6) (dcons (dbin od_sub (dv 0) dci) (dcons (dv 0) da_nil)))) dci)
  (db_one (ds_set 6 sc__law_parted_row.nd (dbin od_add (dbin od_mod (dv 6) (dbin od_sub (dv 0) dci)) dci))))
  (db_one (ds_ret (de_tup (dcons (dv 0) (dcons dcs (dcons (de_tup (dcons (dv 6) da_nil)) da_nil)))))))))))))
theorem ok__law_big_row (T : Txt K mg cv tv) (I : Cls P w K mg base cv n) {fa : Addr} {fd : FuncData} (F : Fun K "_law_big_row" "_law_big_row" s__law_big_row fa fd) : FnOk P w K mg base (L2N.CX P w) (n + 1) fa fd ["_law_cell"] (spF K cv (wF PP (n + 1)) 112 1) :=
  fn_mk (d := d__law_big_row) rfl F sc__law_big_row rfl rfl fun cdv A outer s H E hr tk pn =>
  (db_cons (ds_set 1 sc__law_big_row.nd (de_lst (dcons (de_tup (dcons dci (dcons dci (dcons (de_tup (dcons (de_tup (dcons dci (dcons dci da_nil))) da_nil)) da_nil)))) (dcons (de_tup (dcons dci (dcons dci (dcons (de_tup (dcons (de_tup (dcons dci (dcons dci da_nil))) (dcons (de_tup (dcons dci (dcons dci da_nil))) (dcons (de_tup (dcons dci (dcons dci da_nil))) da_nil)))) da_nil)))) da_nil))))
  (db_cons (ds_set 1 sc__law_big_row.nd (dbin od_add (dv 1) (de_lst (dcons (de_tup (dcons dci (dcons dci (dcons (de_tup (dcons (de_tup (dcons dci (dcons dci da_nil))) (dcons (de_tup (dcons dci (dcons dci da_nil))) (dcons (de_tup (dcons dci (dcons dci da_nil))) da_nil)))) da_nil)))) (dcons (de_tup (dcons dci (dcons dci (dcons (de_tup (dcons (de_tup (dcons dci (dcons dci da_nil))) (dcons (de_tup (dcons dci (dcons dci da_nil))) da_nil))) da_nil)))) da_nil)))))
  (db_cons (ds_unp rfl (didx (hu_of hr) (dv 1) (dbin od_mod (dv 0) dci)) (pgs_cons (gn 2 sc__law_big_row.nd) (pgs_cons (gn 3 sc__law_big_row.nd) (pgs_cons (gn 4 sc__law_big_row.nd) pgs_nil))))
  (db_cons (ds_set 3 sc__law_big_row.nd (dcall I.c__law_power hr tk (dcons (dv 3) (dcons (didx (hu_of hr) (de_lst (dcons dci (dcons dci (dcons dci (dcons dci (dcons dci da_nil)))))) (dbin od_mod (dbin od_fdiv (dv 0) dci) dci)) (dcons (dv 2) da_nil)))))
  (db_one (ds_ret (de_tup (dcons (dv 2) (dcons dcs (dcons (de_tup (dcons (dv 3) (dcons (dv 4) da_nil))) da_nil))))))))))
theorem ok__law_great_row (T : Txt K mg cv tv) (I : Cls P w K mg base cv n) {fa : Addr} {fd : FuncData} (F : Fun K "_law_great_row" "_law_great_row" s__law_great_row fa fd) : FnOk P w K mg base (L2N.CX P w) (n + 1) fa fd ["_law_cell", "_law_more"] (spF K cv (wF PP (n + 1)) 113 2) :=
  fn_mk (d := d__law_great_row) rfl F sc__law_great_row rfl rfl fun cdv A outer s H E hr tk pn =>
  (db_cons (ds_set 2 sc__law_great_row.nd (dbin od_add dci (dbin od_mod (dbin od_add (dbin od_mul (dv 0) dci) (dv 1)) (dbin od_pow dci dci))))
  (db_cons (ds_set 3 sc__law_great_row.nd (dbin od_add dci (dbin od_mod (dbin od_add (dbin od_mul (dv 1) dci) (dv 0)) (dbin od_sub (dbin od_pow dci dci) dci))))
  (db_cons (ds_ife (dtc (od_eq hr.units) (dbin od_mod (dv 0) dci) dci)
  (db_one (ds_ret (de_tup (dcons (dbin od_mul (dv 2) (dv 3)) (dcons dcs (dcons (de_tup (dcons (dv 2) (dcons (dv 3) da_nil))) da_nil))))))
  db_nil)
  (db_cons (ds_ife (dtc (od_eq hr.units) (dbin od_mod (dv 0) dci) dci)
  (db_one (ds_ret (de_tup (dcons (dbin od_mul (dv 2) (dv 3)) (dcons dcs (dcons (de_tup (dcons (dv 2) da_nil)) da_nil))))))
  db_nil)
  (db_one (ds_ret (de_tup (dcons (dbin od_sub (dbin od_mul (dbin od_add (dv 3) dci) (dbin od_add (dv 3) dci)) dci) (dcons dcs (dcons (de_tup (dcons (dbin od_add (dv 3) dci) da_nil)) da_nil))))))))))
theorem ok__law_needs (T : Txt K mg cv tv) (I : Cls P w K mg base cv n) {fa : Addr} {fd : FuncData} (F : Fun K "_law_needs" "_law_needs" s__law_needs fa fd) : FnOk P w K mg base (L2N.CX P w) (n + 1) fa fd ["_law_row"] (spF K cv (wF PP (n + 1)) 114 1) :=
  fn_mk (d := d__law_needs) rfl F sc__law_needs rfl rfl fun cdv A outer s H E hr tk pn =>
  (db_cons (ds_ife (dtc (od_eq hr.units) (didx (hu_of hr) (dv 0) dci) dcs)
  (db_one (ds_ret (dcomp [("_law_q", 1), ("_law_times", 2)] rfl sc__law_needs.nd (dl_tup (didx (hu_of hr) (didx (hu_of hr) (dv 0) dci) dci)) tg_tup (fun _ _ _ _ _ => (gt [1, 2] rfl (pgs_cons (gn 1 sc__law_needs.nd) (pgs_cons (gn 2 sc__law_needs.nd) pgs_nil)))) (fun _ _ _ _ _ => dts_nil) (fun _ _ _ _ _ => (dv 1)))))
  db_nil)
  (db_one (ds_ret (de_lst da_nil))))
theorem ok__law_closed (T : Txt K mg cv tv) (I : Cls P w K mg base cv n) {fa : Addr} {fd : FuncData} (F : Fun K "_law_closed" "_law_closed" s__law_closed fa fd) : FnOk P w K mg base (L2N.CX P w) (n + 1) fa fd ["_law_rows", "_law_waiting", "_law_cells"] (spF K cv (wF PP (n + 1)) 115 3) :=
  fn_mk (d := d__law_closed) rfl F sc__law_closed rfl rfl fun cdv A outer s H E hr tk pn =>
  (db_cons (ds_whl pn (dtc od_gt (dbi cd_len T.z_len (dcons (dv 1) da_nil)) dci)
  (db_cons (ds_set 3 sc__law_closed.nd (dm0 PySem.F.plainAttrs_list PySem.F.slot_list_pop PySem.F.type_list_pop md_pop (dv 1)))
  (db_one (ds_ife (dtc (od_notin (hu_of hr)) (dv 3) (dv 0))
  (db_cons (ds_set 4 sc__law_closed.nd (didx (hu_of hr) (dv 2) (dbin od_mod (dbin od_add (dv 3) (dbi cd_len T.z_len (dcons (dv 0) da_nil))) (dbi cd_len T.z_len (dcons (dv 2) da_nil)))))
  (db_cons (ds_ife (dval (dcall I.c__law_is_prime hr tk (dcons (dv 3) da_nil)))
  (db_one (ds_sub (hu_of hr) (dv 0) (dv 3) (dcall I.c__law_prime_row hr tk (dcons (dv 3) (dcons (dv 4) da_nil)))))
  (db_one (ds_sub (hu_of hr) (dv 0) (dv 3) (dcall I.c__law_parted_row hr tk (dcons (dv 3) (dcons (dv 4) da_nil))))))
  (db_one (ds_ex (dm1 PySem.F.plainAttrs_list PySem.F.slot_list_extend PySem.F.type_list_extend md_extend (dv 1) (dcons (dcall I.c__law_needs hr tk (dcons (didx (hu_of hr) (dv 0) (dv 3)) da_nil)) da_nil))))))
  db_nil))))
  (db_one (ds_ret (dcomp [("_law_number", 5)] rfl sc__law_closed.nd (dl_lst (dbi (cd_sorted rfl) T.z_sorted (dcons (dv 0) da_nil))) tg_name (fun _ _ _ _ _ => (gn 5 sc__law_closed.nd)) (fun _ _ _ _ _ => dts_nil) (fun _ _ _ _ _ => (didx (hu_of hr) (dv 0) (dv 5)))))))
theorem ok__law_rows_by (T : Txt K mg cv tv) (I : Cls P w K mg base cv n) {fa : Addr} {fd : FuncData} (F : Fun K "_law_rows_by" "_law_rows_by" s__law_rows_by fa fd) : FnOk P w K mg base (L2N.CX P w) (n + 1) fa fd ["_law_cells"] (spF K cv (wF PP (n + 1)) 116 1) :=
  fn_mk (d := d__law_rows_by) rfl F sc__law_rows_by rfl rfl fun cdv A outer s H E hr tk pn =>
  (db_cons (ds_set 1 sc__law_rows_by.nd de_dnew)
  (db_cons (ds_setC 2 [("_law_k", 3)] rfl sc__law_rows_by.nd (dl_rng1 rfl T.z_range (dcons (dbin od_add dci (dbin od_mod (didx (hu_of hr) (dv 0) dci) dci)) da_nil) rfl) tg_name (fun _ _ _ _ _ => (gn 3 sc__law_rows_by.nd)) (fun _ _ _ _ _ => dts_nil) (fun _ _ _ _ _ => (dbin od_add dci (dbin od_mod (dbin od_fdiv (didx (hu_of hr) (dv 0) (dv 3)) dci) (didx (hu_of hr) (de_lst (dcons dci (dcons dci da_nil))) (dbin od_mod (dbin od_fdiv (didx (hu_of hr) (dv 0) (dv 3)) dci) dci))))))
  (db_cons (ds_ife (dtc (od_eq hr.units) (dbin od_mod (didx (hu_of hr) (dv 0) dci) dci) dci)
  (db_cons (ds_set 4 sc__law_rows_by.nd (dcall I.c__law_big_row hr tk (dcons (dbin od_fdiv (didx (hu_of hr) (dv 0) dci) dci) da_nil)))
  (db_cons (ds_sub (hu_of hr) (dv 1) (didx (hu_of hr) (dv 4) dci) (dv 4))
  (db_one (ds_ex (dm1 PySem.F.plainAttrs_list PySem.F.slot_list_extend PySem.F.type_list_extend md_extend (dv 2) (dcons (dcall I.c__law_needs hr tk (dcons (dv 4) da_nil)) da_nil))))))
  db_nil)
  (db_cons (ds_ife (dtc (od_eq hr.units) (dbin od_mod (didx (hu_of hr) (dv 0) dci) dci) dci)
  (db_cons (ds_set 4 sc__law_rows_by.nd (dcall I.c__law_great_row hr tk (dcons (didx (hu_of hr) (dv 0) dci) (dcons (didx (hu_of hr) (dv 0) dci) da_nil))))
  (db_one (ds_sub (hu_of hr) (dv 1) (didx (hu_of hr) (dv 4) dci) (dv 4))))
  db_nil)
  (db_one (ds_ret (dcall I.c__law_closed hr tk (dcons (dv 1) (dcons (dv 2) (dcons (dv 0) da_nil))))))))))
theorem ok__law_rising (T : Txt K mg cv tv) (I : Cls P w K mg base cv n) {fa : Addr} {fd : FuncData} (F : Fun K "_law_rising" "_law_rising" s__law_rising fa fd) : FnOk P w K mg base (L2N.CX P w) (n + 1) fa fd ["_law_powers"] (spF K cv (wF PP (n + 1)) 123 1) :=
  fn_mk (d := d__law_rising) rfl F sc__law_rising rfl rfl fun cdv A outer s H E hr tk pn =>
  (db_cons (ds_set 1 sc__law_rising.nd dci)
  (db_cons (ds_for pn (dl_tup (dv 0)) (gn 2 sc__law_rising.nd) tg_name
  (db_cons (ds_ife (dpw (dw_or (dt_not (dval (disi .tuple T.z_isinstance T.z_tuple (dv 2)))) (dw_or (dtc (od_ne hr.units) (dbi cd_len T.z_len (dcons (dv 2) da_nil)) dci) (dw_one (dt_not (dval (dcall I.c__law_within hr tk (dcons (didx (hu_of hr) (dv 2) dci) (dcons (dbin od_add (dv 1) dci) (dcons (dbin od_pow dci dci) da_nil))))))))))
  (db_one (ds_ret dcb))
  db_nil)
  (db_cons (ds_ife (dt_not (dval (dcall I.c__law_within hr tk (dcons (didx (hu_of hr) (dv 2) dci) (dcons dci (dcons dci da_nil))))))
  (db_one (ds_ret dcb))
  db_nil)
  (db_one (ds_set 1 sc__law_rising.nd (didx (hu_of hr) (dv 2) dci))))))
  (db_one (ds_ret dcb))))
theorem ok__law_within (T : Txt K mg cv tv) (I : Cls P w K mg base cv n) {fa : Addr} {fd : FuncData} (F : Fun K "_law_within" "_law_within" s__law_within fa fd) : FnOk P w K mg base (L2N.CX P w) (n + 1) fa fd ["_law_thing", "_law_low", "_law_high"] (spF K cv (wF PP (n + 1)) 124 3) :=
  fn_mk (d := d__law_within) rfl F sc__law_within rfl rfl fun cdv A outer s H E hr tk pn =>
  (db_one (ds_ret (de_and (disi .int T.z_isinstance T.z_int (dv 0)) (de_and (de_not (disi .bool T.z_isinstance T.z_bool (dv 0))) (pe_one (dchn od_le od_le (dv 1) (dv 0) (dv 2)))))))
theorem ok__law_row_right (T : Txt K mg cv tv) (I : Cls P w K mg base cv n) {fa : Addr} {fd : FuncData} (F : Fun K "_law_row_right" "_law_row_right" s__law_row_right fa fd) : FnOk P w K mg base (L2N.CX P w) (n + 1) fa fd ["_law_row"] (spF K cv (wF PP (n + 1)) 125 1) :=
  fn_mk (d := d__law_row_right) rfl F sc__law_row_right rfl rfl fun cdv A outer s H E hr tk pn =>
  (db_cons (ds_ife (dpw (dw_or (dt_not (dval (disi .tuple T.z_isinstance T.z_tuple (dv 0)))) (dw_or (dtc (od_ne hr.units) (dbi cd_len T.z_len (dcons (dv 0) da_nil)) dci) (dw_one (dt_not (dval (dcall I.c__law_within hr tk (dcons (didx (hu_of hr) (dv 0) dci) (dcons dci (dcons (dbin od_pow dci dci) da_nil))))))))))
  (db_one (ds_ret dcb))
  db_nil)
  (db_cons (ds_ife (dpw (dw_or (dt_not (dval (disi .str T.z_isinstance T.z_str (didx (hu_of hr) (dv 0) dci)))) (dw_one (dt_not (dval (disi .tuple T.z_isinstance T.z_tuple (didx (hu_of hr) (dv 0) dci)))))))
  (db_one (ds_ret dcb))
  db_nil)
  (db_cons (ds_set 1 sc__law_row_right.nd (didx (hu_of hr) (dv 0) dci))
  (db_cons (ds_ife (dtc (od_eq hr.units) (didx (hu_of hr) (dv 0) dci) dcs)
  (db_one (ds_ret (dcmp (od_eq hr.units) (dv 1) (de_tup da_nil))))
  db_nil)
  (db_cons (ds_ife (dtc (od_eq hr.units) (didx (hu_of hr) (dv 0) dci) dcs)
  (db_one (ds_ret (de_and (dcmp (od_eq hr.units) (dbi cd_len T.z_len (dcons (dv 1) da_nil)) dci) (de_and (dcall I.c__law_within hr tk (dcons (didx (hu_of hr) (dv 1) dci) (dcons dci (dcons (dbin od_pow dci dci) da_nil)))) (pe_one (dcall I.c__law_within hr tk (dcons (didx (hu_of hr) (dv 1) dci) (dcons dci (dcons (dbin od_pow dci dci) da_nil)))))))))
  db_nil)
  (db_cons (ds_ife (dpw (dw_or (dtc (od_eq hr.units) (didx (hu_of hr) (dv 0) dci) dcs) (dw_one (dtc (od_eq hr.units) (didx (hu_of hr) (dv 0) dci) dcs))))
  (db_one (ds_ret (de_and (dcmp (od_eq hr.units) (dbi cd_len T.z_len (dcons (dv 1) da_nil)) dci) (pe_one (dcall I.c__law_within hr tk (dcons (didx (hu_of hr) (dv 1) dci) (dcons dci (dcons (dbin od_pow dci dci) da_nil))))))))
  db_nil)
  (db_cons (ds_ife (dpw (dw_or (dtc (od_ne hr.units) (didx (hu_of hr) (dv 0) dci) dcs) (dw_or (dtc (od_ne hr.units) (dbi cd_len T.z_len (dcons (dv 1) da_nil)) dci) (dw_one (dt_not (dval (dcall I.c__law_within hr tk (dcons (didx (hu_of hr) (dv 1) dci) (dcons dci (dcons (dbin od_pow dci dci) da_nil))))))))))
  (db_one (ds_ret dcb))
  db_nil)
  (db_one (ds_ret (de_and (disi .tuple T.z_isinstance T.z_tuple (didx (hu_of hr) (dv 1) dci)) (de_and (dcmp od_gt (dbi cd_len T.z_len (dcons (didx (hu_of hr) (dv 1) dci) da_nil)) dci) (pe_one (dcall I.c__law_rising hr tk (dcons (didx (hu_of hr) (dv 1) dci) da_nil))))))))))))))
theorem ok__law_line (T : Txt K mg cv tv) (I : Cls P w K mg base cv n) {fa : Addr} {fd : FuncData} (F : Fun K "_law_line" "_law_line" s__law_line fa fd) : FnOk P w K mg base (L2N.CX P w) (n + 1) fa fd ["_law_row"] (spF K cv (wF PP (n + 1)) 136 1) :=
  fn_mk (d := d__law_line) rfl F sc__law_line rfl rfl fun cdv A outer s H E hr tk pn =>
  (db_cons (ds_set 1 sc__law_line.nd (dbin od_add (dbin od_add (dbt cd_str T.z_str (dcons (didx (hu_of hr) (dv 0) dci) da_nil)) dcs) (didx (hu_of hr) (dv 0) dci)))
  (db_cons (ds_ife (dtc (od_eq hr.units) (didx (hu_of hr) (dv 0) dci) dcs)
  (db_cons (ds_set 1 sc__law_line.nd (dbin od_add (dbin od_add (dv 1) dcs) (dbt cd_str T.z_str (dcons (didx (hu_of hr) (didx (hu_of hr) (dv 0) dci) dci) da_nil))))
  (db_cons (ds_for pn (dl_tup (didx (hu_of hr) (didx (hu_of hr) (dv 0) dci) dci)) (gt [2, 3] rfl (pgs_cons (gn 2 sc__law_line.nd) (pgs_cons (gn 3 sc__law_line.nd) pgs_nil))) tg_tup
  (db_one (ds_set 1 sc__law_line.nd (dbin od_add (dbin od_add (dbin od_add (dbin od_add (dv 1) dcs) (dbt cd_str T.z_str (dcons (dv 2) da_nil))) dcs) (dbt cd_str T.z_str (dcons (dv 3) da_nil))))))
  (db_one (ds_ret (dv 1)))))
  db_nil)
  (db_cons (ds_for pn (dl_tup (didx (hu_of hr) (dv 0) dci)) (gn 4 sc__law_line.nd) tg_name
  (db_one (ds_set 1 sc__law_line.nd (dbin od_add (dbin od_add (dv 1) dcs) (dbt cd_str T.z_str (dcons (dv 4) da_nil))))))
  (db_one (ds_ret (dv 1))))))
theorem ok__law_slip_right (T : Txt K mg cv tv) (I : Cls P w K mg base cv n) {fa : Addr} {fd : FuncData} (F : Fun K "_law_slip_right" "_law_slip_right" s__law_slip_right fa fd) : FnOk P w K mg base (L2N.CX P w) (n + 1) fa fd ["_law_slip"] (spF K cv (wF PP (n + 1)) 138 1) :=
  fn_mk (d := d__law_slip_right) rfl F sc__law_slip_right rfl rfl fun cdv A outer s H E hr tk pn =>
  (db_cons (ds_ife (dpw (dw_or (dt_not (dval (disi .tuple T.z_isinstance T.z_tuple (dv 0)))) (dw_or (dt_not (dtch od_le od_le dci (dbi cd_len T.z_len (dcons (dv 0) da_nil)) dci)) (dw_one (dt_not (dval (dbi (cd_all rfl) T.z_all (dcons (dcomp [("_law_row", 1)] rfl sc__law_slip_right.nd (dl_tup (dv 0)) tg_name (fun _ _ _ _ _ => (gn 1 sc__law_slip_right.nd)) (fun _ _ _ _ _ => dts_nil) (fun _ _ _ _ _ => (dcall I.c__law_row_right hr takes0N (dcons (dv 1) da_nil)))) da_nil))))))))
  (db_one (ds_ret dcb))
  db_nil)
  (db_cons (ds_for pn (dl_rng2 rfl T.z_range (dcons dci (dcons (dbi cd_len T.z_len (dcons (dv 0) da_nil)) da_nil)) rfl rfl) (gn 2 sc__law_slip_right.nd) tg_name
  (db_one (ds_ife (dtc od_ge (didx (hu_of hr) (didx (hu_of hr) (dv 0) (dbin od_sub (dv 2) dci)) dci) (didx (hu_of hr) (didx (hu_of hr) (dv 0) (dv 2)) dci))
  (db_one (ds_ret dcb))
  db_nil)))
  (db_one (ds_ret dcb))))
theorem ok__law_changed (T : Txt K mg cv tv) (I : Cls P w K mg base cv n) {fa : Addr} {fd : FuncData} (F : Fun K "_law_changed" "_law_changed" s__law_changed fa fd) : FnOk P w K mg base (L2N.CX P w) (n + 1) fa fd ["_law_text", "_law_cell", "_law_more"] (spF K cv (wF PP (n + 1)) 132 3) :=
  fn_mk (d := d__law_changed) rfl F sc__law_changed rfl rfl fun cdv A outer s H E hr tk pn =>
  (db_cons (ds_set 3 sc__law_changed.nd (dbin od_mod (dv 2) (dbin od_add dci (dbi cd_len T.z_len (dcons (dv 0) da_nil)))))
  (db_cons (ds_set 4 sc__law_changed.nd dcs)
  (db_cons (ds_set 5 sc__law_changed.nd (didx (hu_of hr) (dv 4) (dbin od_mod (dbin od_fdiv (dv 1) dci) (dbi cd_len T.z_len (dcons (dv 4) da_nil)))))
  (db_cons (ds_ife (dtc (od_eq hr.units) (dbin od_mod (dv 1) dci) dci)
  (db_one (ds_ret (dbin od_add (de_slice (dv 0) do_none (do_some (dv 3))) (de_slice (dv 0) (do_some (dbin od_add (dv 3) dci)) do_none))))
  db_nil)
  (db_cons (ds_ife (dtc (od_eq hr.units) (dbin od_mod (dv 1) dci) dci)
  (db_one (ds_ret (dbin od_add (dbin od_add (de_slice (dv 0) do_none (do_some (dv 3))) (dv 5)) (de_slice (dv 0) (do_some (dv 3)) do_none))))
  db_nil)
  (db_cons (ds_ife (dtc (od_eq hr.units) (dbin od_mod (dv 1) dci) dci)
  (db_one (ds_ret (dbin od_add (dbin od_add (de_slice (dv 0) do_none (do_some (dv 3))) (dv 5)) (de_slice (dv 0) (do_some (dbin od_add (dv 3) dci)) do_none))))
  db_nil)
  (db_cons (ds_set 6 sc__law_changed.nd (dm1 PySem.F.plainAttrs_str PySem.F.slot_str_split PySem.F.type_str_split md_split (dv 0) (dcons dcs da_nil)))
  (db_cons (ds_set 7 sc__law_changed.nd (dbin od_mod (dv 2) (dbi cd_len T.z_len (dcons (dv 6) da_nil))))
  (db_cons (ds_ife (dtc (od_eq hr.units) (dbin od_mod (dv 1) dci) dci)
  (db_one (ds_ret (dm1 PySem.F.plainAttrs_str PySem.F.slot_str_join PySem.F.type_str_join md_join dcs (dcons (dbin od_add (dbin od_add (de_slice (dv 6) do_none (do_some (dv 7))) (de_lst (dcons (didx (hu_of hr) (dv 6) (dbin od_sub (dv 7) dci)) da_nil))) (de_slice (dv 6) (do_some (dv 7)) do_none)) da_nil))))
  db_nil)
  (db_cons (ds_ife (dtc od_gt (dbin od_mod (dv 1) dci) dci)
  (db_cons (ds_setC 8 [("_law_k", 9)] rfl sc__law_changed.nd (dl_rng1 rfl T.z_range (dcons (dbi cd_len T.z_len (dcons (dv 6) da_nil)) da_nil) rfl) tg_name (fun _ _ _ _ _ => (gn 9 sc__law_changed.nd)) (fun _ _ _ _ _ => (dts_one (dtc (od_in (hu_of hr)) dcs (didx (hu_of hr) (dv 6) (dv 9))))) (fun _ _ _ _ _ => (dv 9)))
  (db_cons (ds_ife (dpw (dw_and (dtc od_gt (dbi cd_len T.z_len (dcons (dv 8) da_nil)) dci) (dw_one (dtc od_gt (dbin od_mod (dbin od_fdiv (dv 1) dci) dci) dci))))
  (db_one (ds_set 7 sc__law_changed.nd (didx (hu_of hr) (dv 8) (dbin od_mod (dv 2) (dbi cd_len T.z_len (dcons (dv 8) da_nil))))))
  db_nil)
  (db_cons (ds_set 10 sc__law_changed.nd (dm1 PySem.F.plainAttrs_str PySem.F.slot_str_split PySem.F.type_str_split md_split (didx (hu_of hr) (dv 6) (dv 7)) (dcons dcs da_nil)))
  (db_cons (ds_set 11 sc__law_changed.nd (didx (hu_of hr) (de_lst (dcons dcs (dcons dcs (dcons dcs (dcons dcs (dcons (dbin od_mul dcs dci) (dcons (dbin od_mul dcs dci) (dcons dcs (dcons (dbin od_mul dcs dci) da_nil))))))))) (dbin od_mod (dbin od_fdiv (dv 1) dci) dci)))
  (db_cons (ds_set 3 sc__law_changed.nd (dbin od_mod (dbin od_fdiv (dv 1) dci) (dbi cd_len T.z_len (dcons (dv 10) da_nil))))
  (db_cons (ds_ife (dtc (od_eq hr.units) (dbin od_mod (dbin od_fdiv (dv 1) dci) dci) dci)
  (db_one (ds_ex (dm1 PySem.F.plainAttrs_list PySem.F.slot_list_insert PySem.F.type_list_insert md_insert (dv 10) (dcons (dv 3) (dcons (dv 11) da_nil)))))
  (db_cons (ds_set 3 sc__law_changed.nd (didx (hu_of hr) (de_lst (dcons (dv 3) (dcons (dbin od_sub (dbi cd_len T.z_len (dcons (dv 10) da_nil)) dci) da_nil))) (dbin od_mod (dbin od_fdiv (dv 1) dci) dci)))
  (db_one (ds_sub (hu_of hr) (dv 10) (dv 3) (didx (hu_of hr) (de_lst (dcons (dbin od_add dcs (didx (hu_of hr) (dv 10) (dv 3))) (dcons (dbin od_add (didx (hu_of hr) (dv 10) (dv 3)) dcs) (dcons (dbin od_add dcs (didx (hu_of hr) (dv 10) (dv 3))) (dcons (dbin od_add (didx (hu_of hr) (dv 10) (dv 3)) dcs) da_nil))))) (dbin od_mod (dbin od_fdiv (dv 1) dci) dci))))))
  (db_one (ds_ret (dm1 PySem.F.plainAttrs_str PySem.F.slot_str_join PySem.F.type_str_join md_join dcs (dcons (dbin od_add (dbin od_add (de_slice (dv 6) do_none (do_some (dv 7))) (de_lst (dcons (dm1 PySem.F.plainAttrs_str PySem.F.slot_str_join PySem.F.type_str_join md_join dcs (dcons (dv 10) da_nil)) da_nil))) (de_slice (dv 6) (do_some (dbin od_add (dv 7) dci)) do_none)) da_nil))))))))))
  db_nil)
  (db_one (ds_ret (de_slice (dv 0) do_none (do_some (dv 3)))))))))))))))
theorem ok_law (T : Txt K mg cv tv) (I : Cls P w K mg base cv n) {fa : Addr} {fd : FuncData} (F : Fun K "law" "law" s_law fa fd) : FnOk P w K mg base (L2N.CX P w) (n + 1) fa fd ["_law_script"] (spF K cv (wF PP (n + 1)) 100 1) :=
  fn_mk (d := d_law) rfl F sc_law rfl rfl fun cdv A outer s H E hr tk pn =>
  (db_cons (ds_set 1 sc_law.nd (dcall I.c__law_mixed hr tk (dcons (dv 0) (dcons dci (dcons dci da_nil)))))
  (db_cons (ds_set 2 sc_law.nd (dm1 PySem.F.plainAttrs_str PySem.F.slot_str_join PySem.F.type_str_join md_join dcs (dcons (dcomp [("_law_row", 3)] rfl sc_law.nd (dl_lst (dcall I.c__law_rows_by hr tk (dcons (dv 1) da_nil))) tg_name (fun _ _ _ _ _ => (gn 3 sc_law.nd)) (fun _ _ _ _ _ => dts_nil) (fun _ _ _ _ _ => (dcall I.c__law_line hr takes0N (dcons (dv 3) da_nil)))) da_nil)))
  (db_cons (ds_for pn (dl_rng1 rfl T.z_range (dcons (dbin od_add dci (dbin od_mod (didx (hu_of hr) (dv 1) dci) dci)) da_nil) rfl) (gn 4 sc_law.nd) tg_name
  (db_one (ds_set 2 sc_law.nd (dcall I.c__law_changed hr tk (dcons (dv 2) (dcons (didx (hu_of hr) (dv 1) (dbin od_add dci (dv 4))) (dcons (didx (hu_of hr) (dv 1) (dbin od_add dci (dv 4))) da_nil)))))))
  (db_cons (ds_try_none (cls := 7) rfl rfl ⟨rfl, by decide, .inl T.x_NoText.nm⟩ tk T.m_7 (fun _ _ _ tk pn => (db_one (ds_set 5 sc_law.nd (dcall I.c_read hr tk (dcons (dv 2) da_nil)))))
  (fun a oe pn0 c hz hd => (db_one (ds_ret (dcallV I.v__law_refused ⟨hr.dp, hr.un⟩ (hot1_suite hz hd) List.mem_cons_self takes0V (dcons (dv 2) da_nil))))))
  (db_one (ds_ret (de_and (dcall I.c__law_slip_right hr tk (dcons (dv 5) da_nil)) (pe_one (dcmp (od_eq hr.units) (dm1 PySem.F.plainAttrs_str PySem.F.slot_str_join PySem.F.type_str_join md_join dcs (dcons (dcomp [("_law_row", 3)] rfl sc_law.nd (dl_tup (dv 5)) tg_name (fun _ _ _ _ _ => (gn 3 sc_law.nd)) (fun _ _ _ _ _ => dts_nil) (fun _ _ _ _ _ => (dcall I.c__law_line hr takes0N (dcons (dv 3) da_nil)))) da_nil)) (dv 2))))))))))
theorem cls_all (T : Txt K mg cv tv) : ∀ n, Cls P w K mg base cv n
  | 0 => ⟨cl_zero (d := d_is_between) rfl T.f_is_between, cl_zero (d := d_are_powers) rfl T.f_are_powers, cl_zero (d := d_are_facts) rfl T.f_are_facts, cl_zero (d := d_is_row) rfl T.f_is_row, cl_zero (d := d_is_slip) rfl T.f_is_slip, cl_zero (d := d_number_of) rfl T.f_number_of, cl_zero (d := d_power_of) rfl T.f_power_of, cl_zero (d := d_row_of) rfl T.f_row_of, cl_zero (d := d_read) rfl T.f_read, cl_zero (d := d__law_cell_at) rfl T.f__law_cell_at, cl_zero (d := d__law_mixed) rfl T.f__law_mixed, cl_zero (d := d__law_power) rfl T.f__law_power, cl_zero (d := d__law_round) rfl T.f__law_round, cl_zero (d := d__law_is_prime) rfl T.f__law_is_prime, cl_zero (d := d__law_factors) rfl T.f__law_factors, cl_zero (d := d__law_prime_row) rfl T.f__law_prime_row, cl_zero (d := d__law_parted_row) rfl T.f__law_parted_row, cl_zero (d := d__law_big_row) rfl T.f__law_big_row, cl_zero (d := d__law_great_row) rfl T.f__law_great_row, cl_zero (d := d__law_needs) rfl T.f__law_needs, cl_zero (d := d__law_closed) rfl T.f__law_closed, cl_zero (d := d__law_rows_by) rfl T.f__law_rows_by, cl_zero (d := d__law_rising) rfl T.f__law_rising, cl_zero (d := d__law_within) rfl T.f__law_within, cl_zero (d := d__law_row_right) rfl T.f__law_row_right, cl_zero (d := d__law_line) rfl T.f__law_line, cl_zero (d := d__law_slip_right) rfl T.f__law_slip_right, cl_zero (d := d__law_changed) rfl T.f__law_changed, cl_zero (d := d_law) rfl T.f_law, clv_zero (d := d_is_between) rfl T.f_is_between rfl, clv_zero (d := d_are_powers) rfl T.f_are_powers rfl, clv_zero (d := d_are_facts) rfl T.f_are_facts rfl, clv_zero (d := d_is_row) rfl T.f_is_row rfl, clv_zero (d := d_is_slip) rfl T.f_is_slip rfl, clv_zero (d := d_number_of) rfl T.f_number_of rfl, clv_zero (d := d_power_of) rfl T.f_power_of rfl, clv_zero (d := d_row_of) rfl T.f_row_of rfl, clv_zero (d := d_read) rfl T.f_read rfl, clv_zero (d := d__law_refused) rfl T.f__law_refused rfl⟩
  | n + 1 => have I := cls_all T n; ⟨cl_mk (d := d_is_between) rfl T.f_is_between fun _ _ F => ok_is_between T I F, cl_mk (d := d_are_powers) rfl T.f_are_powers fun _ _ F => ok_are_powers T I F, cl_mk (d := d_are_facts) rfl T.f_are_facts fun _ _ F => ok_are_facts T I F, cl_mk (d := d_is_row) rfl T.f_is_row fun _ _ F => ok_is_row T I F, cl_mk (d := d_is_slip) rfl T.f_is_slip fun _ _ F => ok_is_slip T I F, cl_mk (d := d_number_of) rfl T.f_number_of fun _ _ F => ok_number_of T I F, cl_mk (d := d_power_of) rfl T.f_power_of fun _ _ F => ok_power_of T I F, cl_mk (d := d_row_of) rfl T.f_row_of fun _ _ F => ok_row_of T I F, cl_mk (d := d_read) rfl T.f_read fun _ _ F => ok_read T I F, cl_mk (d := d__law_cell_at) rfl T.f__law_cell_at fun _ _ F => ok__law_cell_at T I F, cl_mk (d := d__law_mixed) rfl T.f__law_mixed fun _ _ F => ok__law_mixed T I F, cl_mk (d := d__law_power) rfl T.f__law_power fun _ _ F => ok__law_power T I F, cl_mk (d := d__law_round) rfl T.f__law_round fun _ _ F => ok__law_round T I F, cl_mk (d := d__law_is_prime) rfl T.f__law_is_prime fun _ _ F => ok__law_is_prime T I F, cl_mk (d := d__law_factors) rfl T.f__law_factors fun _ _ F => ok__law_factors T I F, cl_mk (d := d__law_prime_row) rfl T.f__law_prime_row fun _ _ F => ok__law_prime_row T I F, cl_mk (d := d__law_parted_row) rfl T.f__law_parted_row fun _ _ F => ok__law_parted_row T I F, cl_mk (d := d__law_big_row) rfl T.f__law_big_row fun _ _ F => ok__law_big_row T I F, cl_mk (d := d__law_great_row) rfl T.f__law_great_row fun _ _ F => ok__law_great_row T I F, cl_mk (d := d__law_needs) rfl T.f__law_needs fun _ _ F => ok__law_needs T I F, cl_mk (d := d__law_closed) rfl T.f__law_closed fun _ _ F => ok__law_closed T I F, cl_mk (d := d__law_rows_by) rfl T.f__law_rows_by fun _ _ F => ok__law_rows_by T I F, cl_mk (d := d__law_rising) rfl T.f__law_rising fun _ _ F => ok__law_rising T I F, cl_mk (d := d__law_within) rfl T.f__law_within fun _ _ F => ok__law_within T I F, cl_mk (d := d__law_row_right) rfl T.f__law_row_right fun _ _ F => ok__law_row_right T I F, cl_mk (d := d__law_line) rfl T.f__law_line fun _ _ F => ok__law_line T I F, cl_mk (d := d__law_slip_right) rfl T.f__law_slip_right fun _ _ F => ok__law_slip_right T I F, cl_mk (d := d__law_changed) rfl T.f__law_changed fun _ _ F => ok__law_changed T I F, cl_mk (d := d_law) rfl T.f_law fun _ _ F => ok_law T I F, clv_mk (d := d_is_between) rfl T.f_is_between rfl fun _ _ F => okv_is_between T I F, clv_mk (d := d_are_powers) rfl T.f_are_powers rfl fun _ _ F => okv_are_powers T I F, clv_mk (d := d_are_facts) rfl T.f_are_facts rfl fun _ _ F => okv_are_facts T I F, clv_mk (d := d_is_row) rfl T.f_is_row rfl fun _ _ F => okv_is_row T I F, clv_mk (d := d_is_slip) rfl T.f_is_slip rfl fun _ _ F => okv_is_slip T I F, clv_mk (d := d_number_of) rfl T.f_number_of rfl fun _ _ F => okv_number_of T I F, clv_mk (d := d_power_of) rfl T.f_power_of rfl fun _ _ F => okv_power_of T I F, clv_mk (d := d_row_of) rfl T.f_row_of rfl fun _ _ F => okv_row_of T I F, clv_mk (d := d_read) rfl T.f_read rfl fun _ _ F => okv_read T I F, clv_mk (d := d__law_refused) rfl T.f__law_refused rfl fun _ _ F => okv__law_refused T I F⟩
end

theorem txt_mk {K : PySem.W.Frag} {h : Heap} {mg : Str → Option Value} (X : K.In h) (G : h.Ns mainGlobals mg)
    {f_is_between : Addr} {od_is_between an_is_between : Option Addr} {sl_is_between : Array (Option Value)} {oc_is_between kV_is_between dc_is_between pm_is_between cd_is_between ct_is_between : Value}
    {f_are_powers : Addr} {od_are_powers an_are_powers : Option Addr} {sl_are_powers : Array (Option Value)} {oc_are_powers kV_are_powers dc_are_powers pm_are_powers cd_are_powers ct_are_powers : Value}
    {f_are_facts : Addr} {od_are_facts an_are_facts : Option Addr} {sl_are_facts : Array (Option Value)} {oc_are_facts kV_are_facts dc_are_facts pm_are_facts cd_are_facts ct_are_facts : Value}
    {f_is_row : Addr} {od_is_row an_is_row : Option Addr} {sl_is_row : Array (Option Value)} {oc_is_row kV_is_row dc_is_row pm_is_row cd_is_row ct_is_row : Value}
    {f_is_slip : Addr} {od_is_slip an_is_slip : Option Addr} {sl_is_slip : Array (Option Value)} {oc_is_slip kV_is_slip dc_is_slip pm_is_slip cd_is_slip ct_is_slip : Value}
    {f_number_of : Addr} {od_number_of an_number_of : Option Addr} {sl_number_of : Array (Option Value)} {oc_number_of kV_number_of dc_number_of pm_number_of cd_number_of ct_number_of : Value}
    {f_power_of : Addr} {od_power_of an_power_of : Option Addr} {sl_power_of : Array (Option Value)} {oc_power_of kV_power_of dc_power_of pm_power_of cd_power_of ct_power_of : Value}
    {f_row_of : Addr} {od_row_of an_row_of : Option Addr} {sl_row_of : Array (Option Value)} {oc_row_of kV_row_of dc_row_of pm_row_of cd_row_of ct_row_of : Value}
    {f_read : Addr} {od_read an_read : Option Addr} {sl_read : Array (Option Value)} {oc_read kV_read dc_read pm_read cd_read ct_read : Value}
    {f__law_cell_at : Addr} {od__law_cell_at an__law_cell_at : Option Addr} {sl__law_cell_at : Array (Option Value)} {oc__law_cell_at kV__law_cell_at dc__law_cell_at pm__law_cell_at cd__law_cell_at ct__law_cell_at : Value}
    {f__law_mixed : Addr} {od__law_mixed an__law_mixed : Option Addr} {sl__law_mixed : Array (Option Value)} {oc__law_mixed kV__law_mixed dc__law_mixed pm__law_mixed cd__law_mixed ct__law_mixed : Value}
    {f__law_power : Addr} {od__law_power an__law_power : Option Addr} {sl__law_power : Array (Option Value)} {oc__law_power kV__law_power dc__law_power pm__law_power cd__law_power ct__law_power : Value}
    {f__law_round : Addr} {od__law_round an__law_round : Option Addr} {sl__law_round : Array (Option Value)} {oc__law_round kV__law_round dc__law_round pm__law_round cd__law_round ct__law_round : Value}
    {f__law_is_prime : Addr} {od__law_is_prime an__law_is_prime : Option Addr} {sl__law_is_prime : Array (Option Value)} {oc__law_is_prime kV__law_is_prime dc__law_is_prime pm__law_is_prime cd__law_is_prime ct__law_is_prime : Value}
    {f__law_factors : Addr} {od__law_factors an__law_factors : Option Addr} {sl__law_factors : Array (Option Value)} {oc__law_factors kV__law_factors dc__law_factors pm__law_factors cd__law_factors ct__law_factors : Value}
    {f__law_prime_row : Addr} {od__law_prime_row an__law_prime_row : Option Addr} {sl__law_prime_row : Array (Option Value)} {oc__law_prime_row kV__law_prime_row dc__law_prime_row pm__law_prime_row cd__law_prime_row ct__law_prime_row : Value}
    {f__law_parted_row : Addr} {od__law_parted_row an__law_parted_row : Option Addr} {sl__law_parted_row : Array (Option Value)} {oc__law_parted_row kV__law_parted_row dc__law_parted_row pm__law_parted_row cd__law_parted_row ct__law_parted_row : Value}
    {f__law_big_row : Addr} {od__law_big_row an__law_big_row : Option Addr} {sl__law_big_row : Array (Option Value)} {oc__law_big_row kV__law_big_row dc__law_big_row pm__law_big_row cd__law_big_row ct__law_big_row : Value}
    {f__law_great_row : Addr} {od__law_great_row an__law_great_row : Option Addr} {sl__law_great_row : Array (Option Value)} {oc__law_great_row kV__law_great_row dc__law_great_row pm__law_great_row cd__law_great_row ct__law_great_row : Value}
    {f__law_needs : Addr} {od__law_needs an__law_needs : Option Addr} {sl__law_needs : Array (Option Value)} {oc__law_needs kV__law_needs dc__law_needs pm__law_needs cd__law_needs ct__law_needs : Value}
    {f__law_closed : Addr} {od__law_closed an__law_closed : Option Addr} {sl__law_closed : Array (Option Value)} {oc__law_closed kV__law_closed dc__law_closed pm__law_closed cd__law_closed ct__law_closed : Value}
    {f__law_rows_by : Addr} {od__law_rows_by an__law_rows_by : Option Addr} {sl__law_rows_by : Array (Option Value)} {oc__law_rows_by kV__law_rows_by dc__law_rows_by pm__law_rows_by cd__law_rows_by ct__law_rows_by : Value}
    {f__law_rising : Addr} {od__law_rising an__law_rising : Option Addr} {sl__law_rising : Array (Option Value)} {oc__law_rising kV__law_rising dc__law_rising pm__law_rising cd__law_rising ct__law_rising : Value}
    {f__law_within : Addr} {od__law_within an__law_within : Option Addr} {sl__law_within : Array (Option Value)} {oc__law_within kV__law_within dc__law_within pm__law_within cd__law_within ct__law_within : Value}
    {f__law_row_right : Addr} {od__law_row_right an__law_row_right : Option Addr} {sl__law_row_right : Array (Option Value)} {oc__law_row_right kV__law_row_right dc__law_row_right pm__law_row_right cd__law_row_right ct__law_row_right : Value}
    {f__law_line : Addr} {od__law_line an__law_line : Option Addr} {sl__law_line : Array (Option Value)} {oc__law_line kV__law_line dc__law_line pm__law_line cd__law_line ct__law_line : Value}
    {f__law_slip_right : Addr} {od__law_slip_right an__law_slip_right : Option Addr} {sl__law_slip_right : Array (Option Value)} {oc__law_slip_right kV__law_slip_right dc__law_slip_right pm__law_slip_right cd__law_slip_right ct__law_slip_right : Value}
    {f__law_changed : Addr} {od__law_changed an__law_changed : Option Addr} {sl__law_changed : Array (Option Value)} {oc__law_changed kV__law_changed dc__law_changed pm__law_changed cd__law_changed ct__law_changed : Value}
    {f__law_refused : Addr} {od__law_refused an__law_refused : Option Addr} {sl__law_refused : Array (Option Value)} {oc__law_refused kV__law_refused dc__law_refused pm__law_refused cd__law_refused ct__law_refused : Value}
    {f_law : Addr} {od_law an_law : Option Addr} {sl_law : Array (Option Value)} {oc_law kV_law dc_law pm_law cd_law ct_law : Value}
    (a_is_between : PySem.W.nsIn K mainGlobals "is_between" = some (some (.ref f_is_between))) (l_is_between : K.lookup f_is_between = some ⟨oc_is_between, od_is_between, .func (PySem.W.fnOf "is_between" "is_between" (defArgs s_is_between) (defBody s_is_between) (defScope s_is_between) .none kV_is_between dc_is_between pm_is_between an_is_between cd_is_between ct_is_between), sl_is_between⟩) (c_is_between : PySem.W.codeIn K cd_is_between "is_between" = true) (k_is_between : PySem.W.keepIn K (.ref f_is_between) = true)
    (a_are_powers : PySem.W.nsIn K mainGlobals "are_powers" = some (some (.ref f_are_powers))) (l_are_powers : K.lookup f_are_powers = some ⟨oc_are_powers, od_are_powers, .func (PySem.W.fnOf "are_powers" "are_powers" (defArgs s_are_powers) (defBody s_are_powers) (defScope s_are_powers) .none kV_are_powers dc_are_powers pm_are_powers an_are_powers cd_are_powers ct_are_powers), sl_are_powers⟩) (c_are_powers : PySem.W.codeIn K cd_are_powers "are_powers" = true) (k_are_powers : PySem.W.keepIn K (.ref f_are_powers) = true)
    (a_are_facts : PySem.W.nsIn K mainGlobals "are_facts" = some (some (.ref f_are_facts))) (l_are_facts : K.lookup f_are_facts = some ⟨oc_are_facts, od_are_facts, .func (PySem.W.fnOf "are_facts" "are_facts" (defArgs s_are_facts) (defBody s_are_facts) (defScope s_are_facts) .none kV_are_facts dc_are_facts pm_are_facts an_are_facts cd_are_facts ct_are_facts), sl_are_facts⟩) (c_are_facts : PySem.W.codeIn K cd_are_facts "are_facts" = true) (k_are_facts : PySem.W.keepIn K (.ref f_are_facts) = true)
    (a_is_row : PySem.W.nsIn K mainGlobals "is_row" = some (some (.ref f_is_row))) (l_is_row : K.lookup f_is_row = some ⟨oc_is_row, od_is_row, .func (PySem.W.fnOf "is_row" "is_row" (defArgs s_is_row) (defBody s_is_row) (defScope s_is_row) .none kV_is_row dc_is_row pm_is_row an_is_row cd_is_row ct_is_row), sl_is_row⟩) (c_is_row : PySem.W.codeIn K cd_is_row "is_row" = true) (k_is_row : PySem.W.keepIn K (.ref f_is_row) = true)
    (a_is_slip : PySem.W.nsIn K mainGlobals "is_slip" = some (some (.ref f_is_slip))) (l_is_slip : K.lookup f_is_slip = some ⟨oc_is_slip, od_is_slip, .func (PySem.W.fnOf "is_slip" "is_slip" (defArgs s_is_slip) (defBody s_is_slip) (defScope s_is_slip) .none kV_is_slip dc_is_slip pm_is_slip an_is_slip cd_is_slip ct_is_slip), sl_is_slip⟩) (c_is_slip : PySem.W.codeIn K cd_is_slip "is_slip" = true) (k_is_slip : PySem.W.keepIn K (.ref f_is_slip) = true)
    (a_number_of : PySem.W.nsIn K mainGlobals "number_of" = some (some (.ref f_number_of))) (l_number_of : K.lookup f_number_of = some ⟨oc_number_of, od_number_of, .func (PySem.W.fnOf "number_of" "number_of" (defArgs s_number_of) (defBody s_number_of) (defScope s_number_of) .none kV_number_of dc_number_of pm_number_of an_number_of cd_number_of ct_number_of), sl_number_of⟩) (c_number_of : PySem.W.codeIn K cd_number_of "number_of" = true) (k_number_of : PySem.W.keepIn K (.ref f_number_of) = true)
    (a_power_of : PySem.W.nsIn K mainGlobals "power_of" = some (some (.ref f_power_of))) (l_power_of : K.lookup f_power_of = some ⟨oc_power_of, od_power_of, .func (PySem.W.fnOf "power_of" "power_of" (defArgs s_power_of) (defBody s_power_of) (defScope s_power_of) .none kV_power_of dc_power_of pm_power_of an_power_of cd_power_of ct_power_of), sl_power_of⟩) (c_power_of : PySem.W.codeIn K cd_power_of "power_of" = true) (k_power_of : PySem.W.keepIn K (.ref f_power_of) = true)
    (a_row_of : PySem.W.nsIn K mainGlobals "row_of" = some (some (.ref f_row_of))) (l_row_of : K.lookup f_row_of = some ⟨oc_row_of, od_row_of, .func (PySem.W.fnOf "row_of" "row_of" (defArgs s_row_of) (defBody s_row_of) (defScope s_row_of) .none kV_row_of dc_row_of pm_row_of an_row_of cd_row_of ct_row_of), sl_row_of⟩) (c_row_of : PySem.W.codeIn K cd_row_of "row_of" = true) (k_row_of : PySem.W.keepIn K (.ref f_row_of) = true)
    (a_read : PySem.W.nsIn K mainGlobals "read" = some (some (.ref f_read))) (l_read : K.lookup f_read = some ⟨oc_read, od_read, .func (PySem.W.fnOf "read" "read" (defArgs s_read) (defBody s_read) (defScope s_read) .none kV_read dc_read pm_read an_read cd_read ct_read), sl_read⟩) (c_read : PySem.W.codeIn K cd_read "read" = true) (k_read : PySem.W.keepIn K (.ref f_read) = true)
    (a__law_cell_at : PySem.W.nsIn K mainGlobals "_law_cell_at" = some (some (.ref f__law_cell_at))) (l__law_cell_at : K.lookup f__law_cell_at = some ⟨oc__law_cell_at, od__law_cell_at, .func (PySem.W.fnOf "_law_cell_at" "_law_cell_at" (defArgs s__law_cell_at) (defBody s__law_cell_at) (defScope s__law_cell_at) .none kV__law_cell_at dc__law_cell_at pm__law_cell_at an__law_cell_at cd__law_cell_at ct__law_cell_at), sl__law_cell_at⟩) (c__law_cell_at : PySem.W.codeIn K cd__law_cell_at "_law_cell_at" = true) (k__law_cell_at : PySem.W.keepIn K (.ref f__law_cell_at) = true)
    (a__law_mixed : PySem.W.nsIn K mainGlobals "_law_mixed" = some (some (.ref f__law_mixed))) (l__law_mixed : K.lookup f__law_mixed = some ⟨oc__law_mixed, od__law_mixed, .func (PySem.W.fnOf "_law_mixed" "_law_mixed" (defArgs s__law_mixed) (defBody s__law_mixed) (defScope s__law_mixed) .none kV__law_mixed dc__law_mixed pm__law_mixed an__law_mixed cd__law_mixed ct__law_mixed), sl__law_mixed⟩) (c__law_mixed : PySem.W.codeIn K cd__law_mixed "_law_mixed" = true) (k__law_mixed : PySem.W.keepIn K (.ref f__law_mixed) = true)
    (a__law_power : PySem.W.nsIn K mainGlobals "_law_power" = some (some (.ref f__law_power))) (l__law_power : K.lookup f__law_power = some ⟨oc__law_power, od__law_power, .func (PySem.W.fnOf "_law_power" "_law_power" (defArgs s__law_power) (defBody s__law_power) (defScope s__law_power) .none kV__law_power dc__law_power pm__law_power an__law_power cd__law_power ct__law_power), sl__law_power⟩) (c__law_power : PySem.W.codeIn K cd__law_power "_law_power" = true) (k__law_power : PySem.W.keepIn K (.ref f__law_power) = true)
    (a__law_round : PySem.W.nsIn K mainGlobals "_law_round" = some (some (.ref f__law_round))) (l__law_round : K.lookup f__law_round = some ⟨oc__law_round, od__law_round, .func (PySem.W.fnOf "_law_round" "_law_round" (defArgs s__law_round) (defBody s__law_round) (defScope s__law_round) .none kV__law_round dc__law_round pm__law_round an__law_round cd__law_round ct__law_round), sl__law_round⟩) (c__law_round : PySem.W.codeIn K cd__law_round "_law_round" = true) (k__law_round : PySem.W.keepIn K (.ref f__law_round) = true)
    (a__law_is_prime : PySem.W.nsIn K mainGlobals "_law_is_prime" = some (some (.ref f__law_is_prime))) (l__law_is_prime : K.lookup f__law_is_prime = some ⟨oc__law_is_prime, od__law_is_prime, .func (PySem.W.fnOf "_law_is_prime" "_law_is_prime" (defArgs s__law_is_prime) (defBody s__law_is_prime) (defScope s__law_is_prime) .none kV__law_is_prime dc__law_is_prime pm__law_is_prime an__law_is_prime cd__law_is_prime ct__law_is_prime), sl__law_is_prime⟩) (c__law_is_prime : PySem.W.codeIn K cd__law_is_prime "_law_is_prime" = true) (k__law_is_prime : PySem.W.keepIn K (.ref f__law_is_prime) = true)
    (a__law_factors : PySem.W.nsIn K mainGlobals "_law_factors" = some (some (.ref f__law_factors))) (l__law_factors : K.lookup f__law_factors = some ⟨oc__law_factors, od__law_factors, .func (PySem.W.fnOf "_law_factors" "_law_factors" (defArgs s__law_factors) (defBody s__law_factors) (defScope s__law_factors) .none kV__law_factors dc__law_factors pm__law_factors an__law_factors cd__law_factors ct__law_factors), sl__law_factors⟩) (c__law_factors : PySem.W.codeIn K cd__law_factors "_law_factors" = true) (k__law_factors : PySem.W.keepIn K (.ref f__law_factors) = true)
    (a__law_prime_row : PySem.W.nsIn K mainGlobals "_law_prime_row" = some (some (.ref f__law_prime_row))) (l__law_prime_row : K.lookup f__law_prime_row = some ⟨oc__law_prime_row, od__law_prime_row, .func (PySem.W.fnOf "_law_prime_row" "_law_prime_row" (defArgs s__law_prime_row) (defBody s__law_prime_row) (defScope s__law_prime_row) .none kV__law_prime_row dc__law_prime_row pm__law_prime_row an__law_prime_row cd__law_prime_row ct__law_prime_row), sl__law_prime_row⟩) (c__law_prime_row : PySem.W.codeIn K cd__law_prime_row "_law_prime_row" = true) (k__law_prime_row : PySem.W.keepIn K (.ref f__law_prime_row) = true)
    (a__law_parted_row : PySem.W.nsIn K mainGlobals "_law_parted_row" = some (some (.ref f__law_parted_row))) (l__law_parted_row : K.lookup f__law_parted_row = some ⟨oc__law_parted_row, od__law_parted_row, .func (PySem.W.fnOf "_law_parted_row" "_law_parted_row" (defArgs s__law_parted_row) (defBody s__law_parted_row) (defScope s__law_parted_row) .none kV__law_parted_row dc__law_parted_row pm__law_parted_row an__law_parted_row cd__law_parted_row ct__law_parted_row), sl__law_parted_row⟩) (c__law_parted_row : PySem.W.codeIn K cd__law_parted_row "_law_parted_row" = true) (k__law_parted_row : PySem.W.keepIn K (.ref f__law_parted_row) = true)
    (a__law_big_row : PySem.W.nsIn K mainGlobals "_law_big_row" = some (some (.ref f__law_big_row))) (l__law_big_row : K.lookup f__law_big_row = some ⟨oc__law_big_row, od__law_big_row, .func (PySem.W.fnOf "_law_big_row" "_law_big_row" (defArgs s__law_big_row) (defBody s__law_big_row) (defScope s__law_big_row) .none kV__law_big_row dc__law_big_row pm__law_big_row an__law_big_row cd__law_big_row ct__law_big_row), sl__law_big_row⟩) (c__law_big_row : PySem.W.codeIn K cd__law_big_row "_law_big_row" = true) (k__law_big_row : PySem.W.keepIn K (.ref f__law_big_row) = true)
    (a__law_great_row : PySem.W.nsIn K mainGlobals "_law_great_row" = some (some (.ref f__law_great_row))) (l__law_great_row : K.lookup f__law_great_row = some ⟨oc__law_great_row, od__law_great_row, .func (PySem.W.fnOf "_law_great_row" "_law_great_row" (defArgs s__law_great_row) (defBody s__law_great_row) (defScope s__law_great_row) .none kV__law_great_row dc__law_great_row pm__law_great_row an__law_great_row cd__law_great_row ct__law_great_row), sl__law_great_row⟩) (c__law_great_row : PySem.W.codeIn K cd__law_great_row "_law_great_row" = true) (k__law_great_row : PySem.W.keepIn K (.ref f__law_great_row) = true)
    (a__law_needs : PySem.W.nsIn K mainGlobals "_law_needs" = some (some (.ref f__law_needs))) (l__law_needs : K.lookup f__law_needs = some ⟨oc__law_needs, od__law_needs, .func (PySem.W.fnOf "_law_needs" "_law_needs" (defArgs s__law_needs) (defBody s__law_needs) (defScope s__law_needs) .none kV__law_needs dc__law_needs pm__law_needs an__law_needs cd__law_needs ct__law_needs), sl__law_needs⟩) (c__law_needs : PySem.W.codeIn K cd__law_needs "_law_needs" = true) (k__law_needs : PySem.W.keepIn K (.ref f__law_needs) = true)
    (a__law_closed : PySem.W.nsIn K mainGlobals "_law_closed" = some (some (.ref f__law_closed))) (l__law_closed : K.lookup f__law_closed = some ⟨oc__law_closed, od__law_closed, .func (PySem.W.fnOf "_law_closed" "_law_closed" (defArgs s__law_closed) (defBody s__law_closed) (defScope s__law_closed) .none kV__law_closed dc__law_closed pm__law_closed an__law_closed cd__law_closed ct__law_closed), sl__law_closed⟩) (c__law_closed : PySem.W.codeIn K cd__law_closed "_law_closed" = true) (k__law_closed : PySem.W.keepIn K (.ref f__law_closed) = true)
    (a__law_rows_by : PySem.W.nsIn K mainGlobals "_law_rows_by" = some (some (.ref f__law_rows_by))) (l__law_rows_by : K.lookup f__law_rows_by = some ⟨oc__law_rows_by, od__law_rows_by, .func (PySem.W.fnOf "_law_rows_by" "_law_rows_by" (defArgs s__law_rows_by) (defBody s__law_rows_by) (defScope s__law_rows_by) .none kV__law_rows_by dc__law_rows_by pm__law_rows_by an__law_rows_by cd__law_rows_by ct__law_rows_by), sl__law_rows_by⟩) (c__law_rows_by : PySem.W.codeIn K cd__law_rows_by "_law_rows_by" = true) (k__law_rows_by : PySem.W.keepIn K (.ref f__law_rows_by) = true)
    (a__law_rising : PySem.W.nsIn K mainGlobals "_law_rising" = some (some (.ref f__law_rising))) (l__law_rising : K.lookup f__law_rising = some ⟨oc__law_rising, od__law_rising, .func (PySem.W.fnOf "_law_rising" "_law_rising" (defArgs s__law_rising) (defBody s__law_rising) (defScope s__law_rising) .none kV__law_rising dc__law_rising pm__law_rising an__law_rising cd__law_rising ct__law_rising), sl__law_rising⟩) (c__law_rising : PySem.W.codeIn K cd__law_rising "_law_rising" = true) (k__law_rising : PySem.W.keepIn K (.ref f__law_rising) = true)
    (a__law_within : PySem.W.nsIn K mainGlobals "_law_within" = some (some (.ref f__law_within))) (l__law_within : K.lookup f__law_within = some ⟨oc__law_within, od__law_within, .func (PySem.W.fnOf "_law_within" "_law_within" (defArgs s__law_within) (defBody s__law_within) (defScope s__law_within) .none kV__law_within dc__law_within pm__law_within an__law_within cd__law_within ct__law_within), sl__law_within⟩) (c__law_within : PySem.W.codeIn K cd__law_within "_law_within" = true) (k__law_within : PySem.W.keepIn K (.ref f__law_within) = true)
    (a__law_row_right : PySem.W.nsIn K mainGlobals "_law_row_right" = some (some (.ref f__law_row_right))) (l__law_row_right : K.lookup f__law_row_right = some ⟨oc__law_row_right, od__law_row_right, .func (PySem.W.fnOf "_law_row_right" "_law_row_right" (defArgs s__law_row_right) (defBody s__law_row_right) (defScope s__law_row_right) .none kV__law_row_right dc__law_row_right pm__law_row_right an__law_row_right cd__law_row_right ct__law_row_right), sl__law_row_right⟩) (c__law_row_right : PySem.W.codeIn K cd__law_row_right "_law_row_right" = true) (k__law_row_right : PySem.W.keepIn K (.ref f__law_row_right) = true)
    (a__law_line : PySem.W.nsIn K mainGlobals "_law_line" = some (some (.ref f__law_line))) (l__law_line : K.lookup f__law_line = some ⟨oc__law_line, od__law_line, .func (PySem.W.fnOf "_law_line" "_law_line" (defArgs s__law_line) (defBody s__law_line) (defScope s__law_line) .none kV__law_line dc__law_line pm__law_line an__law_line cd__law_line ct__law_line), sl__law_line⟩) (c__law_line : PySem.W.codeIn K cd__law_line "_law_line" = true) (k__law_line : PySem.W.keepIn K (.ref f__law_line) = true)
    (a__law_slip_right : PySem.W.nsIn K mainGlobals "_law_slip_right" = some (some (.ref f__law_slip_right))) (l__law_slip_right : K.lookup f__law_slip_right = some ⟨oc__law_slip_right, od__law_slip_right, .func (PySem.W.fnOf "_law_slip_right" "_law_slip_right" (defArgs s__law_slip_right) (defBody s__law_slip_right) (defScope s__law_slip_right) .none kV__law_slip_right dc__law_slip_right pm__law_slip_right an__law_slip_right cd__law_slip_right ct__law_slip_right), sl__law_slip_right⟩) (c__law_slip_right : PySem.W.codeIn K cd__law_slip_right "_law_slip_right" = true) (k__law_slip_right : PySem.W.keepIn K (.ref f__law_slip_right) = true)
    (a__law_changed : PySem.W.nsIn K mainGlobals "_law_changed" = some (some (.ref f__law_changed))) (l__law_changed : K.lookup f__law_changed = some ⟨oc__law_changed, od__law_changed, .func (PySem.W.fnOf "_law_changed" "_law_changed" (defArgs s__law_changed) (defBody s__law_changed) (defScope s__law_changed) .none kV__law_changed dc__law_changed pm__law_changed an__law_changed cd__law_changed ct__law_changed), sl__law_changed⟩) (c__law_changed : PySem.W.codeIn K cd__law_changed "_law_changed" = true) (k__law_changed : PySem.W.keepIn K (.ref f__law_changed) = true)
    (a__law_refused : PySem.W.nsIn K mainGlobals "_law_refused" = some (some (.ref f__law_refused))) (l__law_refused : K.lookup f__law_refused = some ⟨oc__law_refused, od__law_refused, .func (PySem.W.fnOf "_law_refused" "_law_refused" (defArgs s__law_refused) (defBody s__law_refused) (defScope s__law_refused) .none kV__law_refused dc__law_refused pm__law_refused an__law_refused cd__law_refused ct__law_refused), sl__law_refused⟩) (c__law_refused : PySem.W.codeIn K cd__law_refused "_law_refused" = true) (k__law_refused : PySem.W.keepIn K (.ref f__law_refused) = true)
    (a_law : PySem.W.nsIn K mainGlobals "law" = some (some (.ref f_law))) (l_law : K.lookup f_law = some ⟨oc_law, od_law, .func (PySem.W.fnOf "law" "law" (defArgs s_law) (defBody s_law) (defScope s_law) .none kV_law dc_law pm_law an_law cd_law ct_law), sl_law⟩) (c_law : PySem.W.codeIn K cd_law "law" = true) (k_law : PySem.W.keepIn K (.ref f_law) = true)
    (z_ValueError : PySem.W.nsIn K mainGlobals "ValueError" = some none)
    (z_all : PySem.W.nsIn K mainGlobals "all" = some none)
    (z_bool : PySem.W.nsIn K mainGlobals "bool" = some none)
    (z_int : PySem.W.nsIn K mainGlobals "int" = some none)
    (z_isinstance : PySem.W.nsIn K mainGlobals "isinstance" = some none)
    (z_len : PySem.W.nsIn K mainGlobals "len" = some none)
    (z_range : PySem.W.nsIn K mainGlobals "range" = some none)
    (z_reversed : PySem.W.nsIn K mainGlobals "reversed" = some none)
    (z_sorted : PySem.W.nsIn K mainGlobals "sorted" = some none)
    (z_str : PySem.W.nsIn K mainGlobals "str" = some none)
    (z_tuple : PySem.W.nsIn K mainGlobals "tuple" = some none)
    {g_BOUND : Nat} (n_BOUND : PySem.W.nsIn K mainGlobals "BOUND" = some (some (.int 1000000000000000000000000000000 g_BOUND)))
    {g_FIGURES : Nat} (n_FIGURES : PySem.W.nsIn K mainGlobals "FIGURES" = some (some (.str "0123456789" g_FIGURES)))
    {g_MOST_FIGURES : Nat} (n_MOST_FIGURES : PySem.W.nsIn K mainGlobals "MOST_FIGURES" = some (some (.int 31 g_MOST_FIGURES)))
    {g_MOST_ROWS : Nat} (n_MOST_ROWS : PySem.W.nsIn K mainGlobals "MOST_ROWS" = some (some (.int 200 g_MOST_ROWS)))
    {g_MOST_TIMES : Nat} (n_MOST_TIMES : PySem.W.nsIn K mainGlobals "MOST_TIMES" = some (some (.int 100 g_MOST_TIMES)))
    {C_SlipError : Addr} (g_SlipError : PySem.W.nsIn K mainGlobals "SlipError" = some (some (.ref C_SlipError))) (kp_SlipError : PySem.W.keepIn K (.ref C_SlipError) = true)
    {C_NoNumber : Addr} (g_NoNumber : PySem.W.nsIn K mainGlobals "NoNumber" = some (some (.ref C_NoNumber))) (kp_NoNumber : PySem.W.keepIn K (.ref C_NoNumber) = true)
    {C_NoSlip : Addr} (g_NoSlip : PySem.W.nsIn K mainGlobals "NoSlip" = some (some (.ref C_NoSlip))) (kp_NoSlip : PySem.W.keepIn K (.ref C_NoSlip) = true)
    {C_NoRow : Addr} (g_NoRow : PySem.W.nsIn K mainGlobals "NoRow" = some (some (.ref C_NoRow))) (kp_NoRow : PySem.W.keepIn K (.ref C_NoRow) = true)
    {C_NotHeld : Addr} (g_NotHeld : PySem.W.nsIn K mainGlobals "NotHeld" = some (some (.ref C_NotHeld))) (kp_NotHeld : PySem.W.keepIn K (.ref C_NotHeld) = true)
    {C_Needed : Addr} (g_Needed : PySem.W.nsIn K mainGlobals "Needed" = some (some (.ref C_Needed))) (kp_Needed : PySem.W.keepIn K (.ref C_Needed) = true)
    {C_NoText : Addr} (g_NoText : PySem.W.nsIn K mainGlobals "NoText" = some (some (.ref C_NoText))) (kp_NoText : PySem.W.keepIn K (.ref C_NoText) = true)
    (ty_SlipError : PySem.W.typeIn K (.ref C_SlipError) = some (.type "type")) (hd_SlipError : PySem.W.hasDictIn K C_SlipError = true) (sf_SlipError : PySem.W.subIn K (.ref C_SlipError) (.ref C_SlipError) = some true)
    (hs_SlipError : PySem.W.subIn K (.ref C_SlipError) (.type "BaseException") = some true)
    (ty_NoNumber : PySem.W.typeIn K (.ref C_NoNumber) = some (.type "type")) (hd_NoNumber : PySem.W.hasDictIn K C_NoNumber = true) (sf_NoNumber : PySem.W.subIn K (.ref C_NoNumber) (.ref C_NoNumber) = some true)
    (ty_NoSlip : PySem.W.typeIn K (.ref C_NoSlip) = some (.type "type")) (hd_NoSlip : PySem.W.hasDictIn K C_NoSlip = true) (sf_NoSlip : PySem.W.subIn K (.ref C_NoSlip) (.ref C_NoSlip) = some true)
    (ty_NoRow : PySem.W.typeIn K (.ref C_NoRow) = some (.type "type")) (hd_NoRow : PySem.W.hasDictIn K C_NoRow = true) (sf_NoRow : PySem.W.subIn K (.ref C_NoRow) (.ref C_NoRow) = some true)
    (ty_NotHeld : PySem.W.typeIn K (.ref C_NotHeld) = some (.type "type")) (hd_NotHeld : PySem.W.hasDictIn K C_NotHeld = true) (sf_NotHeld : PySem.W.subIn K (.ref C_NotHeld) (.ref C_NotHeld) = some true)
    (ty_Needed : PySem.W.typeIn K (.ref C_Needed) = some (.type "type")) (hd_Needed : PySem.W.hasDictIn K C_Needed = true) (sf_Needed : PySem.W.subIn K (.ref C_Needed) (.ref C_Needed) = some true)
    (ty_NoText : PySem.W.typeIn K (.ref C_NoText) = some (.type "type")) (hd_NoText : PySem.W.hasDictIn K C_NoText = true) (sf_NoText : PySem.W.subIn K (.ref C_NoText) (.ref C_NoText) = some true)
    (hs_NoText : PySem.W.subIn K (.ref C_NoText) (.type "BaseException") = some true)
    (ex_NoText : PySem.W.excIn K C_NoText vErr "ValueError.__new__" = true)
    (hg_NoText : PySem.W.findIn K (.ref C_NoText) "__getattribute__" = some (some (.builtin "BaseException.__getattribute__")))
    (hk_NoText : PySem.W.findIn K (.ref C_NoText) "__getattr__" = some none)
    (ha_NoText : PySem.W.findIn K (.ref C_NoText) "__class__" = some (some (.builtin "object.__class__")))
    (hm_NoText : PySem.W.mroIn K C_NoText (.type "object") = some true)
    (hn_x : PySem.W.specialIn K (.builtin "object.__class__") "__get__" = some (some (.builtin "getset_descriptor.__get__"))) (ht_x : PySem.W.takesIn K (.builtin "object.__class__") = some true)
    (su_7_0 : PySem.W.subIn K (.ref C_NoText) (.ref C_SlipError) = some true)
    (su_7_1 : PySem.W.subIn K (.ref C_NoText) (.type "ValueError") = some true)
    (su_7_2 : PySem.W.subIn K (.ref C_NoText) (.ref C_NoNumber) = some false)
    (su_7_3 : PySem.W.subIn K (.ref C_NoText) (.ref C_NoSlip) = some false)
    (su_7_4 : PySem.W.subIn K (.ref C_NoText) (.ref C_NoRow) = some false)
    (su_7_5 : PySem.W.subIn K (.ref C_NoText) (.ref C_NotHeld) = some false)
    (su_7_6 : PySem.W.subIn K (.ref C_NoText) (.ref C_Needed) = some false)
    : Txt K mg (cvL [(7, .ref C_NoText)]) (tvL [(0, .ref C_SlipError), (1, .type "ValueError"), (2, .ref C_NoNumber), (3, .ref C_NoSlip), (4, .ref C_NoRow), (5, .ref C_NotHeld), (6, .ref C_Needed), (7, .ref C_NoText)]) where
  y_NoText := ⟨_, rfl, PySem.W.mg_of X G g_NoText, kp_NoText⟩
  x_SlipError := ⟨_, rfl, PySem.W.mg_of X G g_SlipError, kp_SlipError⟩
  v_1 := rfl
  x_NoNumber := ⟨_, rfl, PySem.W.mg_of X G g_NoNumber, kp_NoNumber⟩
  x_NoSlip := ⟨_, rfl, PySem.W.mg_of X G g_NoSlip, kp_NoSlip⟩
  x_NoRow := ⟨_, rfl, PySem.W.mg_of X G g_NoRow, kp_NoRow⟩
  x_NotHeld := ⟨_, rfl, PySem.W.mg_of X G g_NotHeld, kp_NotHeld⟩
  x_Needed := ⟨_, rfl, PySem.W.mg_of X G g_Needed, kp_Needed⟩
  x_NoText := ⟨_, rfl, PySem.W.mg_of X G g_NoText, kp_NoText⟩
  r := xr_all <| by
    intro c hc; simp only [rcs, List.mem_cons, List.not_mem_nil, or_false] at hc; rcases hc with rfl
    · exact ⟨C_NoText, rfl, ex_NoText, hs_NoText, ty_NoText, ⟨hg_NoText, hk_NoText, hs_NoText, hd_NoText, ha_NoText, hn_x, ht_x, hm_NoText⟩⟩
  t_0 := kit_all (F := fun v => PySem.W.kitOne K v (.ref C_SlipError)) <| by
    intro c hc; simp only [rcs, List.mem_cons, List.not_mem_nil, or_false] at hc; rcases hc with rfl
    · exact kit_ref hd_SlipError ty_SlipError sf_SlipError su_7_0
  t_1 := kit_all (F := fun v => PySem.W.kitOne K v (.type "ValueError")) <| by
    intro c hc; simp only [rcs, List.mem_cons, List.not_mem_nil, or_false] at hc; rcases hc with rfl
    · exact kit_val su_7_1
  t_2 := kit_all (F := fun v => PySem.W.kitOne K v (.ref C_NoNumber)) <| by
    intro c hc; simp only [rcs, List.mem_cons, List.not_mem_nil, or_false] at hc; rcases hc with rfl
    · exact kit_ref hd_NoNumber ty_NoNumber sf_NoNumber su_7_2
  t_3 := kit_all (F := fun v => PySem.W.kitOne K v (.ref C_NoSlip)) <| by
    intro c hc; simp only [rcs, List.mem_cons, List.not_mem_nil, or_false] at hc; rcases hc with rfl
    · exact kit_ref hd_NoSlip ty_NoSlip sf_NoSlip su_7_3
  t_4 := kit_all (F := fun v => PySem.W.kitOne K v (.ref C_NoRow)) <| by
    intro c hc; simp only [rcs, List.mem_cons, List.not_mem_nil, or_false] at hc; rcases hc with rfl
    · exact kit_ref hd_NoRow ty_NoRow sf_NoRow su_7_4
  t_5 := kit_all (F := fun v => PySem.W.kitOne K v (.ref C_NotHeld)) <| by
    intro c hc; simp only [rcs, List.mem_cons, List.not_mem_nil, or_false] at hc; rcases hc with rfl
    · exact kit_ref hd_NotHeld ty_NotHeld sf_NotHeld su_7_5
  t_6 := kit_all (F := fun v => PySem.W.kitOne K v (.ref C_Needed)) <| by
    intro c hc; simp only [rcs, List.mem_cons, List.not_mem_nil, or_false] at hc; rcases hc with rfl
    · exact kit_ref hd_Needed ty_Needed sf_Needed su_7_6
  t_7 := kit_all (F := fun v => PySem.W.kitOne K v (.ref C_NoText)) <| by
    intro c hc; simp only [rcs, List.mem_cons, List.not_mem_nil, or_false] at hc; rcases hc with rfl
    · exact kit_ref hd_NoText ty_NoText sf_NoText sf_NoText
  m_0 := kit_all (F := fun v => PySem.W.exmOne K v (.ref C_SlipError)) <| by
    intro c hc; simp only [rcs, List.mem_cons, List.not_mem_nil, or_false] at hc; rcases hc with rfl
    · exact exm_cls hs_SlipError hd_SlipError ty_SlipError su_7_0
  m_7 := kit_all (F := fun v => PySem.W.exmOne K v (.ref C_NoText)) <| by
    intro c hc; simp only [rcs, List.mem_cons, List.not_mem_nil, or_false] at hc; rcases hc with rfl
    · exact exm_cls hs_NoText hd_NoText ty_NoText sf_NoText
  z_ValueError := PySem.W.mg_none_of X G z_ValueError
  z_all := PySem.W.mg_none_of X G z_all
  z_bool := PySem.W.mg_none_of X G z_bool
  z_int := PySem.W.mg_none_of X G z_int
  z_isinstance := PySem.W.mg_none_of X G z_isinstance
  z_len := PySem.W.mg_none_of X G z_len
  z_range := PySem.W.mg_none_of X G z_range
  z_reversed := PySem.W.mg_none_of X G z_reversed
  z_sorted := PySem.W.mg_none_of X G z_sorted
  z_str := PySem.W.mg_none_of X G z_str
  z_tuple := PySem.W.mg_none_of X G z_tuple
  k_BOUND := ⟨.int _, _, PySem.W.mg_of X G n_BOUND, ⟨_, rfl⟩, fun _ _ => .int _⟩
  k_FIGURES := ⟨.str "0123456789", _, PySem.W.mg_of X G n_FIGURES, ⟨_, rfl⟩, fun _ _ => by rw [show ("0123456789" : Str) = sOf [48, 49, 50, 51, 52, 53, 54, 55, 56, 57] from by decide +kernel]; exact .str _⟩
  k_MOST_FIGURES := ⟨.int _, _, PySem.W.mg_of X G n_MOST_FIGURES, ⟨_, rfl⟩, fun _ _ => .int _⟩
  k_MOST_ROWS := ⟨.int _, _, PySem.W.mg_of X G n_MOST_ROWS, ⟨_, rfl⟩, fun _ _ => .int _⟩
  k_MOST_TIMES := ⟨.int _, _, PySem.W.mg_of X G n_MOST_TIMES, ⟨_, rfl⟩, fun _ _ => .int _⟩
  f_is_between := ⟨_, _, fun_mk (st := s_is_between) l_is_between c_is_between k_is_between, PySem.W.mg_of X G a_is_between, fun us hl => match us, hl with | [_, _, _], _ => rfl⟩
  f_are_powers := ⟨_, _, fun_mk (st := s_are_powers) l_are_powers c_are_powers k_are_powers, PySem.W.mg_of X G a_are_powers, fun us hl => match us, hl with | [_], _ => rfl⟩
  f_are_facts := ⟨_, _, fun_mk (st := s_are_facts) l_are_facts c_are_facts k_are_facts, PySem.W.mg_of X G a_are_facts, fun us hl => match us, hl with | [_, _], _ => rfl⟩
  f_is_row := ⟨_, _, fun_mk (st := s_is_row) l_is_row c_is_row k_is_row, PySem.W.mg_of X G a_is_row, fun us hl => match us, hl with | [_], _ => rfl⟩
  f_is_slip := ⟨_, _, fun_mk (st := s_is_slip) l_is_slip c_is_slip k_is_slip, PySem.W.mg_of X G a_is_slip, fun us hl => match us, hl with | [_], _ => rfl⟩
  f_number_of := ⟨_, _, fun_mk (st := s_number_of) l_number_of c_number_of k_number_of, PySem.W.mg_of X G a_number_of, fun us hl => match us, hl with | [_], _ => rfl⟩
  f_power_of := ⟨_, _, fun_mk (st := s_power_of) l_power_of c_power_of k_power_of, PySem.W.mg_of X G a_power_of, fun us hl => match us, hl with | [_], _ => rfl⟩
  f_row_of := ⟨_, _, fun_mk (st := s_row_of) l_row_of c_row_of k_row_of, PySem.W.mg_of X G a_row_of, fun us hl => match us, hl with | [_], _ => rfl⟩
  f_read := ⟨_, _, fun_mk (st := s_read) l_read c_read k_read, PySem.W.mg_of X G a_read, fun us hl => match us, hl with | [_], _ => rfl⟩
  f__law_cell_at := ⟨_, _, fun_mk (st := s__law_cell_at) l__law_cell_at c__law_cell_at k__law_cell_at, PySem.W.mg_of X G a__law_cell_at, fun us hl => match us, hl with | [_, _], _ => rfl⟩
  f__law_mixed := ⟨_, _, fun_mk (st := s__law_mixed) l__law_mixed c__law_mixed k__law_mixed, PySem.W.mg_of X G a__law_mixed, fun us hl => match us, hl with | [_, _, _], _ => rfl⟩
  f__law_power := ⟨_, _, fun_mk (st := s__law_power) l__law_power c__law_power k__law_power, PySem.W.mg_of X G a__law_power, fun us hl => match us, hl with | [_, _, _], _ => rfl⟩
  f__law_round := ⟨_, _, fun_mk (st := s__law_round) l__law_round c__law_round k__law_round, PySem.W.mg_of X G a__law_round, fun us hl => match us, hl with | [_, _, _], _ => rfl⟩
  f__law_is_prime := ⟨_, _, fun_mk (st := s__law_is_prime) l__law_is_prime c__law_is_prime k__law_is_prime, PySem.W.mg_of X G a__law_is_prime, fun us hl => match us, hl with | [_], _ => rfl⟩
  f__law_factors := ⟨_, _, fun_mk (st := s__law_factors) l__law_factors c__law_factors k__law_factors, PySem.W.mg_of X G a__law_factors, fun us hl => match us, hl with | [_], _ => rfl⟩
  f__law_prime_row := ⟨_, _, fun_mk (st := s__law_prime_row) l__law_prime_row c__law_prime_row k__law_prime_row, PySem.W.mg_of X G a__law_prime_row, fun us hl => match us, hl with | [_, _], _ => rfl⟩
  f__law_parted_row := ⟨_, _, fun_mk (st := s__law_parted_row) l__law_parted_row c__law_parted_row k__law_parted_row, PySem.W.mg_of X G a__law_parted_row, fun us hl => match us, hl with | [_, _], _ => rfl⟩
  f__law_big_row := ⟨_, _, fun_mk (st := s__law_big_row) l__law_big_row c__law_big_row k__law_big_row, PySem.W.mg_of X G a__law_big_row, fun us hl => match us, hl with | [_], _ => rfl⟩
  f__law_great_row := ⟨_, _, fun_mk (st := s__law_great_row) l__law_great_row c__law_great_row k__law_great_row, PySem.W.mg_of X G a__law_great_row, fun us hl => match us, hl with | [_, _], _ => rfl⟩
  f__law_needs := ⟨_, _, fun_mk (st := s__law_needs) l__law_needs c__law_needs k__law_needs, PySem.W.mg_of X G a__law_needs, fun us hl => match us, hl with | [_], _ => rfl⟩
  f__law_closed := ⟨_, _, fun_mk (st := s__law_closed) l__law_closed c__law_closed k__law_closed, PySem.W.mg_of X G a__law_closed, fun us hl => match us, hl with | [_, _, _], _ => rfl⟩
  f__law_rows_by := ⟨_, _, fun_mk (st := s__law_rows_by) l__law_rows_by c__law_rows_by k__law_rows_by, PySem.W.mg_of X G a__law_rows_by, fun us hl => match us, hl with | [_], _ => rfl⟩
  f__law_rising := ⟨_, _, fun_mk (st := s__law_rising) l__law_rising c__law_rising k__law_rising, PySem.W.mg_of X G a__law_rising, fun us hl => match us, hl with | [_], _ => rfl⟩
  f__law_within := ⟨_, _, fun_mk (st := s__law_within) l__law_within c__law_within k__law_within, PySem.W.mg_of X G a__law_within, fun us hl => match us, hl with | [_, _, _], _ => rfl⟩
  f__law_row_right := ⟨_, _, fun_mk (st := s__law_row_right) l__law_row_right c__law_row_right k__law_row_right, PySem.W.mg_of X G a__law_row_right, fun us hl => match us, hl with | [_], _ => rfl⟩
  f__law_line := ⟨_, _, fun_mk (st := s__law_line) l__law_line c__law_line k__law_line, PySem.W.mg_of X G a__law_line, fun us hl => match us, hl with | [_], _ => rfl⟩
  f__law_slip_right := ⟨_, _, fun_mk (st := s__law_slip_right) l__law_slip_right c__law_slip_right k__law_slip_right, PySem.W.mg_of X G a__law_slip_right, fun us hl => match us, hl with | [_], _ => rfl⟩
  f__law_changed := ⟨_, _, fun_mk (st := s__law_changed) l__law_changed c__law_changed k__law_changed, PySem.W.mg_of X G a__law_changed, fun us hl => match us, hl with | [_, _, _], _ => rfl⟩
  f__law_refused := ⟨_, _, fun_mk (st := s__law_refused) l__law_refused c__law_refused k__law_refused, PySem.W.mg_of X G a__law_refused, fun us hl => match us, hl with | [_], _ => rfl⟩
  f_law := ⟨_, _, fun_mk (st := s_law) l_law c_law k_law, PySem.W.mg_of X G a_law, fun us hl => match us, hl with | [_], _ => rfl⟩
theorem fin_mk {P : Program} {w : World} {K : PySem.W.Frag} {mg : Str → Option Value} {fa : Addr} (hmg : mg "law" = some (.ref fa)) {cv tv : Nat → Value} (T : Txt K mg cv tv) :
    ∃ fd : FuncData, (∀ (s : Shared) (u : Value), BindsTo s fd ⟨[u], []⟩ [("_law_script", u)]) ∧ ∀ base : Heap, K.In base → base.Ns mainGlobals mg → FnOk P w K mg base (L2N.CX P w) 20 fa fd ["_law_script"] (sp0 K (wF PP 20) 100 1) := by
  obtain ⟨fa', fd, F, hm, b⟩ := T.f_law.ex
  have e := hmg.symm.trans hm
  cases e
  exact ⟨fd, fun s u => .of_eq (b [u] rfl), fun base _ _ => fn_imp (ok_law T (cls_all T 19) F) fun _ _ _ _ => sp0_of⟩
end Sl
open PySem PySem.W PyProof.Rows
set_option maxHeartbeats 0 in
theorem PySem.Challenge.cw_primeslip_k09_texts_refused_holds : PySem.Challenge.rw_primeslip_k09_texts_refused.Holds := by
  w_on; o_law; k_head; (case hw => w_witness2)
  k_fill
  refine L2.walk_of (l := PySem.Challenge.rw_primeslip_k09_texts_refused) (n := 63) (k := 20) (x := "_law_script") (CX := fun w => L2N.CX PySem.Challenge.rw_primeslip_k09_texts_refused.prog w) (sp := fun w => Sl.sp0 _ (Sl.wF Sl.PP 20) 100 1) rfl (by decide) rfl ⟨rfl, by decide, by decide⟩ (fun w h Y => PySem.W.kIn_of Y) ?F (fun _ _ _ _ hl hO hS => Sl.sp0_law hO hS (Sl.law_ok hl)) (fun _ _ _ _ _ h => Sl.cx_no h)
  case F =>
    intro w mg fa h KX G hmg
    refine' Sl.fin_mk hmg (Sl.txt_mk KX G ?a_is_between ?l_is_between ?c_is_between ?k_is_between ?a_are_powers ?l_are_powers ?c_are_powers ?k_are_powers ?a_are_facts ?l_are_facts ?c_are_facts ?k_are_facts ?a_is_row ?l_is_row ?c_is_row ?k_is_row ?a_is_slip ?l_is_slip ?c_is_slip ?k_is_slip ?a_number_of ?l_number_of ?c_number_of ?k_number_of ?a_power_of ?l_power_of ?c_power_of ?k_power_of ?a_row_of ?l_row_of ?c_row_of ?k_row_of ?a_read ?l_read ?c_read ?k_read ?a__law_cell_at ?l__law_cell_at ?c__law_cell_at ?k__law_cell_at ?a__law_mixed ?l__law_mixed ?c__law_mixed ?k__law_mixed ?a__law_power ?l__law_power ?c__law_power ?k__law_power ?a__law_round ?l__law_round ?c__law_round ?k__law_round ?a__law_is_prime ?l__law_is_prime ?c__law_is_prime ?k__law_is_prime ?a__law_factors ?l__law_factors ?c__law_factors ?k__law_factors ?a__law_prime_row ?l__law_prime_row ?c__law_prime_row ?k__law_prime_row ?a__law_parted_row ?l__law_parted_row ?c__law_parted_row ?k__law_parted_row ?a__law_big_row ?l__law_big_row ?c__law_big_row ?k__law_big_row ?a__law_great_row ?l__law_great_row ?c__law_great_row ?k__law_great_row ?a__law_needs ?l__law_needs ?c__law_needs ?k__law_needs ?a__law_closed ?l__law_closed ?c__law_closed ?k__law_closed ?a__law_rows_by ?l__law_rows_by ?c__law_rows_by ?k__law_rows_by ?a__law_rising ?l__law_rising ?c__law_rising ?k__law_rising ?a__law_within ?l__law_within ?c__law_within ?k__law_within ?a__law_row_right ?l__law_row_right ?c__law_row_right ?k__law_row_right ?a__law_line ?l__law_line ?c__law_line ?k__law_line ?a__law_slip_right ?l__law_slip_right ?c__law_slip_right ?k__law_slip_right ?a__law_changed ?l__law_changed ?c__law_changed ?k__law_changed ?a__law_refused ?l__law_refused ?c__law_refused ?k__law_refused ?a_law ?l_law ?c_law ?k_law ?z_ValueError ?z_all ?z_bool ?z_int ?z_isinstance ?z_len ?z_range ?z_reversed ?z_sorted ?z_str ?z_tuple ?n_BOUND ?n_FIGURES ?n_MOST_FIGURES ?n_MOST_ROWS ?n_MOST_TIMES ?g_SlipError ?kp_SlipError ?g_NoNumber ?kp_NoNumber ?g_NoSlip ?kp_NoSlip ?g_NoRow ?kp_NoRow ?g_NotHeld ?kp_NotHeld ?g_Needed ?kp_Needed ?g_NoText ?kp_NoText ?ty_SlipError ?hd_SlipError ?sf_SlipError ?hs_SlipError ?ty_NoNumber ?hd_NoNumber ?sf_NoNumber ?ty_NoSlip ?hd_NoSlip ?sf_NoSlip ?ty_NoRow ?hd_NoRow ?sf_NoRow ?ty_NotHeld ?hd_NotHeld ?sf_NotHeld ?ty_Needed ?hd_Needed ?sf_Needed ?ty_NoText ?hd_NoText ?sf_NoText ?hs_NoText ?ex_NoText ?hg_NoText ?hk_NoText ?ha_NoText ?hm_NoText ?hn_x ?ht_x ?su_7_0 ?su_7_1 ?su_7_2 ?su_7_3 ?su_7_4 ?su_7_5 ?su_7_6)
    (case a_is_between => k_is); (case l_is_between => k_is); (case c_is_between => k_is); (case k_is_between => k_is); (case a_are_powers => k_is); (case l_are_powers => k_is); (case c_are_powers => k_is); (case k_are_powers => k_is); (case a_are_facts => k_is); (case l_are_facts => k_is); (case c_are_facts => k_is); (case k_are_facts => k_is); (case a_is_row => k_is); (case l_is_row => k_is); (case c_is_row => k_is); (case k_is_row => k_is); (case a_is_slip => k_is); (case l_is_slip => k_is); (case c_is_slip => k_is); (case k_is_slip => k_is); (case a_number_of => k_is); (case l_number_of => k_is); (case c_number_of => k_is); (case k_number_of => k_is); (case a_power_of => k_is); (case l_power_of => k_is); (case c_power_of => k_is); (case k_power_of => k_is); (case a_row_of => k_is); (case l_row_of => k_is); (case c_row_of => k_is); (case k_row_of => k_is); (case a_read => k_is); (case l_read => k_is); (case c_read => k_is); (case k_read => k_is); (case a__law_cell_at => k_is); (case l__law_cell_at => k_is); (case c__law_cell_at => k_is); (case k__law_cell_at => k_is); (case a__law_mixed => k_is); (case l__law_mixed => k_is); (case c__law_mixed => k_is); (case k__law_mixed => k_is); (case a__law_power => k_is); (case l__law_power => k_is); (case c__law_power => k_is); (case k__law_power => k_is); (case a__law_round => k_is); (case l__law_round => k_is); (case c__law_round => k_is); (case k__law_round => k_is); (case a__law_is_prime => k_is); (case l__law_is_prime => k_is); (case c__law_is_prime => k_is); (case k__law_is_prime => k_is); (case a__law_factors => k_is); (case l__law_factors => k_is); (case c__law_factors => k_is); (case k__law_factors => k_is); (case a__law_prime_row => k_is); (case l__law_prime_row => k_is); (case c__law_prime_row => k_is); (case k__law_prime_row => k_is); (case a__law_parted_row => k_is); (case l__law_parted_row => k_is); (case c__law_parted_row => k_is); (case k__law_parted_row => k_is); (case a__law_big_row => k_is); (case l__law_big_row => k_is); (case c__law_big_row => k_is); (case k__law_big_row => k_is); (case a__law_great_row => k_is); (case l__law_great_row => k_is); (case c__law_great_row => k_is); (case k__law_great_row => k_is); (case a__law_needs => k_is); (case l__law_needs => k_is); (case c__law_needs => k_is); (case k__law_needs => k_is); (case a__law_closed => k_is); (case l__law_closed => k_is); (case c__law_closed => k_is); (case k__law_closed => k_is); (case a__law_rows_by => k_is); (case l__law_rows_by => k_is); (case c__law_rows_by => k_is); (case k__law_rows_by => k_is); (case a__law_rising => k_is); (case l__law_rising => k_is); (case c__law_rising => k_is); (case k__law_rising => k_is); (case a__law_within => k_is); (case l__law_within => k_is); (case c__law_within => k_is); (case k__law_within => k_is); (case a__law_row_right => k_is); (case l__law_row_right => k_is); (case c__law_row_right => k_is); (case k__law_row_right => k_is); (case a__law_line => k_is); (case l__law_line => k_is); (case c__law_line => k_is); (case k__law_line => k_is); (case a__law_slip_right => k_is); (case l__law_slip_right => k_is); (case c__law_slip_right => k_is); (case k__law_slip_right => k_is); (case a__law_changed => k_is); (case l__law_changed => k_is); (case c__law_changed => k_is); (case k__law_changed => k_is); (case a__law_refused => k_is); (case l__law_refused => k_is); (case c__law_refused => k_is); (case k__law_refused => k_is); (case a_law => k_is); (case l_law => k_is); (case c_law => k_is); (case k_law => k_is); (case z_ValueError => k_is); (case z_all => k_is); (case z_bool => k_is); (case z_int => k_is); (case z_isinstance => k_is); (case z_len => k_is); (case z_range => k_is); (case z_reversed => k_is); (case z_sorted => k_is); (case z_str => k_is); (case z_tuple => k_is); (case n_BOUND => k_is); (case n_FIGURES => k_is); (case n_MOST_FIGURES => k_is); (case n_MOST_ROWS => k_is); (case n_MOST_TIMES => k_is); (case g_SlipError => k_is); (case kp_SlipError => k_is); (case g_NoNumber => k_is); (case kp_NoNumber => k_is); (case g_NoSlip => k_is); (case kp_NoSlip => k_is); (case g_NoRow => k_is); (case kp_NoRow => k_is); (case g_NotHeld => k_is); (case kp_NotHeld => k_is); (case g_Needed => k_is); (case kp_Needed => k_is); (case g_NoText => k_is); (case kp_NoText => k_is); (case ty_SlipError => k_is); (case hd_SlipError => k_is); (case sf_SlipError => k_is); (case hs_SlipError => k_is); (case ty_NoNumber => k_is); (case hd_NoNumber => k_is); (case sf_NoNumber => k_is); (case ty_NoSlip => k_is); (case hd_NoSlip => k_is); (case sf_NoSlip => k_is); (case ty_NoRow => k_is); (case hd_NoRow => k_is); (case sf_NoRow => k_is); (case ty_NotHeld => k_is); (case hd_NotHeld => k_is); (case sf_NotHeld => k_is); (case ty_Needed => k_is); (case hd_Needed => k_is); (case sf_Needed => k_is); (case ty_NoText => k_is); (case hd_NoText => k_is); (case sf_NoText => k_is); (case hs_NoText => k_is); (case ex_NoText => k_exc); (case hg_NoText => k_is); (case hk_NoText => k_is); (case ha_NoText => k_is); (case hm_NoText => k_is); (case hn_x => k_is); (case ht_x => k_is); (case su_7_0 => k_is); (case su_7_1 => k_is); (case su_7_2 => k_is); (case su_7_3 => k_is); (case su_7_4 => k_is); (case su_7_5 => k_is); (case su_7_6 => k_is)
