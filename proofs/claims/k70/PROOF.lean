import PyProof.Rows.All
import Wide.All
import OpenK.AllK
import Wide.FinOn
import HandS.ForMost
import HandS.Conv
import HandS.IsInst
import HandS.Zip
import HandS.TupAny
import HandS.TupMul
import HandS.Wide
import HandS.DictTup
import HandS.NoneIn
import KE.SortData
import HandS.Flow
import HandS.Deep
import HandS.Star
import HandS.TupLen
import HandS.WordsDict
import HandS.More
import HandS.ListItems
import HandS.Codes
import HandS.Style
import HandS.DictComp
import HandS.Zip0
import KE.KDictZip
import KE.KDictItemsList
import PyProof.EnumMake
import HandS.HeadHook2
import HandS.Head0
import HandS.Head1
import HandS.Head2
import HandS.HeadEnd
import HandS.Words
import KE.KStateDown
import HandS.Ends
import HandS.WordsExc
import HandS.Defaults
import PySem.Challenge.RW_nolooking_k70_networks_at_the_greatest_s
set_option Elab.async false
set_option linter.all false
section
set_option maxRecDepth 100000
set_option autoImplicit false
/-! EV: a small evaluator of a part of Python over plain data, beside the model. Syntax and meaning. -/
namespace EV
open PySem L2

/-- plain values: trees; loc: a place of the store -/
inductive D where
  | non | bl (b : Bool) | int (i : Int) | str (s : Str) | ty (n : String) | cl (n : Nat)
  | tup (xs : List D) | ctup (xs : List D) | lst (xs : List D) | slst (xs : List D) | loc (n : Nat)

inductive Cell where
  | lst (xs : List D) | dK (kvs : List (Key × D)) | dT (kvs : List (List Key × D)) | ins (C : Nat) (fs : List (Option D))

abbrev Sto := List Cell
abbrev En := List (Option D)

/-- what an expression gives: a value, or a list or dict that nobody else holds yet -/
inductive Vl where
  | d (x : D) | fl (xs : List D) | fK (kvs : List (Key × D)) | fT (kvs : List (List Key × D))

inductive Bf where
  | len | tuple | list | sorted | sum | min | max | abs | int | any | all | isinst | dict | set
  deriving DecidableEq
inductive Bm where
  | append | extend | pop | popAt | get | items | values | clear
  deriving DecidableEq
inductive Stp where
  | one | back | by2
  deriving DecidableEq

mutual
inductive Ex where
  | var (i : Nat) | cst (d : D) | con (i : Nat) | new (e : Ex) | emK | emT
  | bin (o : Operator) (a b : Ex) | neg (a : Ex)
  | cmp (o : CmpOp) (a b : Ex) | cmp2 (o o' : CmpOp) (a b c : Ex)
  | and (a b : Ex) | or (a b : Ex) | not (a : Ex) | ite (c a b : Ex)
  | tup (es : Exs) | lst (es : Exs)
  | call (f : Nat) (es : Exs) | mk (C : Nat) (es : Exs) | meth (o : Ex) (m : Nat) (es : Exs)
  | bf (f : Bf) (es : Exs) | bfi (f : Bf) (it : Src) | bm (m : Bm) (o : Ex) (es : Exs)
  | ix (a b : Ex) | sl (a : Ex) (lo hi : Ox) (s : Stp)
  | fld (o : Ex) (i : Nat)
  | comp (e : Ex) (own : List Nat) (t : Tg) (it : Src) (ifs : Exs)
  | comp2 (e : Ex) (own : List Nat) (t : Tg) (it : Src) (ifs : Exs) (t2 : Tg) (it2 : Src) (ifs2 : Exs)
  | dcomp (k v : Ex) (own : List Nat) (t : Tg) (it : Src) (ifs : Exs)
inductive Exs where
  | nil | cons (e : Ex) (es : Exs) | star (e : Ex) (es : Exs)
inductive Ox where
  | no | so (e : Ex)
inductive Src where
  | ex (e : Ex) | rng (es : Exs) | zip (es : Exs) | enum (e : Ex) | items (e : Ex) | vals (e : Ex) | rev (e : Ex)
inductive Tg where
  | nm (i : Nat) | tup (ts : Tgs) | ix (a b : Ex) | fld (o : Ex) (i : Nat)
inductive Tgs where
  | nil | cons (t : Tg) (ts : Tgs)
end

mutual
inductive Sm where
  | set (t : Tg) (e : Ex) | par (is : List Nat) (es : Exs) | aug (i : Nat) (o : Operator) (e : Ex)
  | augIx (a b : Ex) (o : Operator) (e : Ex) | augF (a : Ex) (i : Nat) (o : Operator) (e : Ex)
  | ex (e : Ex) | ret (e : Ex) | iff (c : Ex) (a b : Sms) | for (t : Tg) (it : Src) (b : Sms) | whl (c : Ex) (b : Sms)
  | brk | cnt | pass
inductive Sms where
  | nil | cons (s : Sm) (ss : Sms)
end

end EV
end
section
set_option maxRecDepth 100000
set_option autoImplicit false
/-! EV: meaning. -/
namespace EV
open PySem L2

mutual
def D.same : D → D → Bool
  | .non, .non => true
  | .bl a, .bl b => a == b
  | .int a, .int b => a == b
  | .str a, .str b => decide (a = b)
  | .ty a, .ty b => a == b
  | .cl a, .cl b => a == b
  | .tup a, .tup b => D.sames a b
  | .ctup a, .ctup b => D.sames a b
  | .lst a, .lst b => D.sames a b
  | .slst a, .slst b => D.sames a b
  | .loc a, .loc b => a == b
  | _, _ => false
def D.sames : List D → List D → Bool
  | [], [] => true
  | x :: xs, y :: ys => D.same x y && D.sames xs ys
  | _, _ => false
end
mutual
theorem D.same_eq : ∀ {a b : D}, D.same a b = true → a = b
  | .non, b, h => by cases b <;> simp_all [D.same]
  | .bl a, b, h => by cases b <;> simp_all [D.same]
  | .int a, b, h => by cases b <;> simp_all [D.same]
  | .str a, b, h => by cases b <;> simp_all [D.same]
  | .ty a, b, h => by cases b <;> simp_all [D.same]
  | .cl a, b, h => by cases b <;> simp_all [D.same]
  | .loc a, b, h => by cases b <;> simp_all [D.same]
  | .tup a, b, h => by
    cases b <;> simp only [D.same, Bool.false_eq_true] at h
    rw [D.sames_eq h]
  | .ctup a, b, h => by
    cases b <;> simp only [D.same, Bool.false_eq_true] at h
    rw [D.sames_eq h]
  | .lst a, b, h => by
    cases b <;> simp only [D.same, Bool.false_eq_true] at h
    rw [D.sames_eq h]
  | .slst a, b, h => by
    cases b <;> simp only [D.same, Bool.false_eq_true] at h
    rw [D.sames_eq h]
theorem D.sames_eq : ∀ {a b : List D}, D.sames a b = true → a = b
  | [], [], _ => rfl
  | [], _ :: _, h => by simp [D.sames] at h
  | _ :: _, [], h => by simp [D.sames] at h
  | x :: xs, y :: ys, h => by
    simp only [D.sames, Bool.and_eq_true] at h
    rw [D.same_eq h.1, D.sames_eq h.2]
end
mutual
theorem D.same_refl : ∀ a : D, D.same a a = true
  | .non | .bl _ | .int _ | .str _ | .ty _ | .cl _ | .loc _ => by simp [D.same]
  | .tup a | .ctup a | .lst a | .slst a => by simp [D.same, D.sames_refl a]
theorem D.sames_refl : ∀ a : List D, D.sames a a = true
  | [] => rfl
  | x :: xs => by simp [D.sames, D.same_refl x, D.sames_refl xs]
end
instance : DecidableEq D := fun a b => if h : D.same a b = true then .isTrue (D.same_eq h) else .isFalse fun e => h (e ▸ D.same_refl a)
def Cell.same : Cell → Cell → Bool
  | .lst a, .lst b => decide (a = b)
  | .dK a, .dK b => decide (a = b)
  | .dT a, .dT b => decide (a = b)
  | .ins a x, .ins b y => decide (a = b) && decide (x = y)
  | _, _ => false
theorem Cell.same_iff (a b : Cell) : Cell.same a b = true ↔ a = b := by
  cases a <;> cases b <;> simp [Cell.same]
instance : DecidableEq Cell := fun a b => decidable_of_iff _ (Cell.same_iff a b)

mutual
/-- all places are below b -/
def D.under (b : Nat) : D → Bool
  | .loc n => decide (n < b)
  | .tup xs | .ctup xs | .lst xs | .slst xs => D.unders b xs
  | _ => true
def D.unders (b : Nat) : List D → Bool
  | [] => true
  | x :: xs => D.under b x && D.unders b xs
end
mutual
/-- a value of data alone (no place, no class) -/
def D.pure : D → Bool
  | .non | .bl _ | .int _ | .str _ => true
  | .tup xs | .ctup xs | .lst xs | .slst xs => D.pures xs
  | _ => false
def D.pures : List D → Bool
  | [] => true
  | x :: xs => D.pure x && D.pures xs
end
mutual
def D.py : D → PyData
  | .bl b => .bool b | .int i => .int i | .str s => .str s
  | .tup xs | .ctup xs => .tuple (D.pys xs)
  | .lst xs | .slst xs => .list (D.pys xs)
  | _ => .none
def D.pys : List D → List PyData
  | [] => []
  | x :: xs => D.py x :: D.pys xs
end
/-- as data, a list's place read -/
def pyS (S : Sto) : D → Option PyData
  | .loc n => match S[n]? with
    | some (.lst xs) => if D.pures xs = true then some (.list (D.pys xs)) else none
    | _ => none
  | d => if d.pure = true then some d.py else none

def Vl.frz : Vl → Option D
  | .d x => some x
  | .fl xs => some (.lst xs)
  | _ => none
abbrev Rv := Option (Vl × Sto)
abbrev Rd := Option (D × Sto)

/-! reading -/
def lstOf (S : Sto) : D → Option (List D)
  | .lst xs => some xs
  | .slst xs => some xs
  | .loc n => match S[n]? with | some (.lst xs) => some xs | _ => none
  | _ => none
/-- a list that is tracked -/
def lsmOf (S : Sto) : D → Option (List D)
  | .lst xs => some xs
  | .loc n => match S[n]? with | some (.lst xs) => some xs | _ => none
  | _ => none
def tupOf : D → Option (List D)
  | .tup xs => some xs
  | .ctup xs => some xs
  | _ => none
def seqOf (S : Sto) (d : D) : Option (List D) := match tupOf d with
  | some xs => some xs
  | none => lstOf S d
def D.key : D → Option Key
  | .int i => some (.inl i)
  | .str s => some (.inr s)
  | _ => none
def keysOf : List D → Option (List Key)
  | [] => some []
  | x :: xs => match x.key, keysOf xs with | some k, some ks => some (k :: ks) | _, _ => none
def D.keyT : D → Option (List Key)
  | .tup xs => keysOf xs
  | _ => none
section
variable {κ : Type} [DecidableEq κ]
def valG (kvs : List (κ × D)) (k : κ) : Option D := (kvs.find? fun kv => decide (kv.1 = k)).map (·.2)
def putG (kvs : List (κ × D)) (k : κ) (v : D) : List (κ × D) :=
  if kvs.any (fun kv => decide (kv.1 = k)) then kvs.map (fun kv => if kv.1 = k then (kv.1, v) else kv) else kvs ++ [(k, v)]
def dropG (kvs : List (κ × D)) (k : κ) : List (κ × D) := kvs.filter fun kv => decide (kv.1 ≠ k)
end
/-- d.get(k): what is there, if k is a key that may be asked -/
def dget (c : Cell) (k : D) : Option (Option D) := match c with
  | .dK kvs => k.key.map fun k => valG kvs k
  | .dT kvs => k.keyT.map fun k => valG kvs k
  | _ => none
def getF (fs : List (Option D)) (i : Nat) : Option D := (fs[i]?).join
def setF (fs : List (Option D)) (i : Nat) (d : D) : List (Option D) := (fs ++ List.replicate (i + 1 - fs.length) none).set i (some d)

def truth (S : Sto) : D → Option Bool
  | .non => some false
  | .bl b => some b
  | .int i => some (i != 0)
  | .str s => if s.length ≤ sizeLine then some (s.length != 0) else none
  | d => match seqOf S d with
    | some xs => some (!xs.isEmpty)
    | none => match d with
      | .loc n => match S[n]? with | some (.dK kvs) => some (!kvs.isEmpty) | _ => none
      | _ => none

def lz (xs : List D) : Option Vl := if xs.length ≤ sizeLine then some (.fl xs) else none
def tz (xs : List D) : Option Vl := if xs.length ≤ sizeLine then some (.d (.tup xs)) else none

def binop (o : Operator) (S : Sto) (x y : D) : Option Vl := match o, x, y with
  | .Add, .int i, .int j => some (.d (.int (i + j)))
  | .Sub, .int i, .int j => some (.d (.int (i - j)))
  | .Mult, .int i, .int j => if i.natAbs.log2 + j.natAbs.log2 < 1000000 then some (.d (.int (i * j))) else none
  | .FloorDiv, .int i, .int j => if 0 < j ∧ j < 1073741824 then some (.d (.int (i / j))) else none
  | .Mod, .int i, .int j => if 0 < j then some (.d (.int (i % j))) else none
  | .Pow, .int i, .int j => if 0 ≤ j ∧ j ≤ 1000000 ∧ i.natAbs < 2 ^ 64 then some (.d (.int (i ^ j.toNat))) else none
  | .LShift, .int i, .int j => if 0 ≤ j ∧ j ≤ 1000000 ∧ i.natAbs < 2 ^ 64 then some (.d (.int (i * 2 ^ j.toNat))) else none
  | .RShift, .int i, .int j => if 0 ≤ j then some (.d (.int (i / 2 ^ j.toNat))) else none
  | .BitAnd, .int i, .int j => some (.d (.int (Builtin.bitAnd i j)))
  | .Add, .str a, .str b => if a.length + b.length ≤ sizeLine then some (.d (.str (a ++ b))) else none
  | .Add, x, y => match tupOf x, tupOf y with
    | some xs, some ys => if xs.length + ys.length ≤ sizeLine then some (.d (if xs.isEmpty = true then y else if ys.isEmpty = true then x else .tup (xs ++ ys))) else none
    | _, _ => match lsmOf S x, lsmOf S y with
      | some xs, some ys => if xs.length + ys.length ≤ sizeLine then some (.fl (xs ++ ys)) else none
      | _, _ => none
  | .Mult, x, .int k => match tupOf x with
    | some xs => if xs ≠ [] ∧ 2 ≤ k ∧ k ≤ 1000 ∧ xs.length ≤ 1000 then some (.d (.tup (List.replicate k.toNat xs).flatten)) else none
    | none => match lsmOf S x with
      | some xs => if -(2 ^ 63) ≤ k ∧ k < 2 ^ 63 ∧ xs.length * k.toNat ≤ sizeLine then some (.fl (List.replicate k.toNat xs).flatten) else none
      | none => none
  | _, _, _ => none

def intsOf : List D → Option (List Int)
  | [] => some []
  | .int i :: xs => (intsOf xs).map (i :: ·)
  | _ :: _ => none
def blsOf : List D → Option (List Bool)
  | [] => some []
  | .bl i :: xs => (blsOf xs).map (i :: ·)
  | _ :: _ => none
def eqD (S : Sto) (x y : D) : Option Bool := match pyS S x, pyS S y with
  | some a, some b => if SeqAt.shaped a = true ∧ SeqAt.shaped b = true then some (PyData.eqv a b) else none
  | _, _ => none
def flatD : D → Bool
  | .non | .bl _ | .int _ | .str _ => true
  | _ => false
def inD (S : Sto) (x y : D) : Option Bool :=
  match (match y with | .loc n => (match S[n]? with | some (.lst _) => none | c => c) | _ => none) with
  | some c => (dget c x).map (·.isSome)
  | none => match seqOf S y with
    | some ys => if flatD x = true ∧ ys.all flatD = true then some (ys.any fun y => PyData.eqv y.py x.py) else none
    | none => none
def isD : D → D → Option Bool
  | x, .non => some (decide (x = .non))
  | _, _ => none
def ltD (f : Int → Int → Bool) (x y : D) : Option Bool := match x, y with
  | .int i, .int j => some (f i j)
  | _, _ => none
def ltT (x y : D) : Option Bool := match x, y with
  | .int i, .int j => some (decide (i < j))
  | x, y => match (tupOf x).bind intsOf, (tupOf y).bind intsOf with
    | some ns, some ms => some (HT.lexLt ns ms)
    | _, _ => none
def cmpop (o : CmpOp) (S : Sto) (x y : D) : Option Bool := match o with
  | .Eq => eqD S x y
  | .NotEq => (eqD S x y).map (!·)
  | .Lt => ltT x y
  | .LtE => ltD (fun i j => decide (i ≤ j)) x y
  | .Gt => ltD (fun i j => decide (j < i)) x y
  | .GtE => ltD (fun i j => decide (j ≤ i)) x y
  | .Is => isD x y
  | .IsNot => (isD x y).map (!·)
  | .In => inD S x y
  | .NotIn => (inD S x y).map (!·)

def itemAt (S : Sto) (x y : D) : Option D := match y with
  | .int i => match seqOf S x with
    | some xs => atI xs i
    | none => match x with
      | .str z => if z.length ≤ sizeLine then (atI z.cps.toList i).map fun c => .str ⟨#[c]⟩ else none
      | .loc n => match S[n]? with | some c => (dget c y).join | _ => none
      | _ => none
  | _ => match x with
    | .loc n => match S[n]? with | some c => (dget c y).join | _ => none
    | _ => none

def cutD (xs : List D) (lo hi : Option Int) : List D := (xs.drop (HT.sIx xs.length 0 lo)).take (HT.sIx xs.length xs.length hi - HT.sIx xs.length 0 lo)
def every2 {α : Type} : List α → List α
  | [] => []
  | [x] => [x]
  | x :: _ :: xs => x :: every2 xs
def slice (S : Sto) (x : D) (lo hi : Option Int) (s : Stp) : Option Vl := match s with
  | .one => match tupOf x with
    | some xs => some (.d (if HT.sIx xs.length 0 lo = 0 ∧ HT.sIx xs.length xs.length hi = xs.length then x else .tup (cutD xs lo hi)))
    | none => match lstOf S x with
      | some xs => some (.fl (cutD xs lo hi))
      | none => none
  | .back => match lo, hi with
    | none, none => match tupOf x with
      | some xs => some (.d (.tup xs.reverse))
      | none => match lstOf S x with
        | some xs => some (.fl xs.reverse)
        | none => none
    | _, _ => none
  | .by2 => match hi with
    | none => match tupOf x with
      | some xs => some (.d (.tup (every2 (cutD xs lo none))))
      | none => match lstOf S x with
        | some xs => some (.fl (every2 (cutD xs lo none)))
        | none => none
    | _ => none

/-- isinstance(x, T) of a built-in class -/
def isK (S : Sto) (x : D) (t : String) : Bool := match x with
  | .bl _ => t == "bool" || t == "int"
  | .int _ => t == "int"
  | .str _ => t == "str"
  | .tup _ | .ctup _ => t == "tuple"
  | .lst _ | .slst _ => t == "list"
  | .loc n => match S[n]? with
    | some (.lst _) => t == "list"
    | some (.dK _) | some (.dT _) => t == "dict"
    | _ => false
  | _ => false
def tyOk (t : String) : Bool := t == "bool" || t == "int" || t == "str" || t == "tuple" || t == "list"
def tyOkD : D → Bool
  | .ty t => tyOk t
  | _ => false
def isKD (S : Sto) (x : D) : D → Bool
  | .ty t => isK S x t
  | _ => false
def kindOk (S : Sto) : D → Bool
  | .non | .bl _ | .int _ | .str _ | .tup _ | .ctup _ | .lst _ => true
  | .loc n => match S[n]? with | some (.lst _) | some (.dK _) | some (.dT _) => true | _ => false
  | _ => false
def isInst (S : Sto) (x T : D) : Option Bool := match T with
  | .ty t => if tyOk t = true ∧ kindOk S x = true then some (isK S x t) else none
  | .tup ts => if kindOk S x = true ∧ ts.all tyOkD = true then some (ts.any (isKD S x)) else none
  | _ => none

def sortOk (xs : List D) : Bool :=
  D.pures xs && decide (xs.length ≤ sizeLine) && xs.all (fun x => xs.all fun y => W.alike x.py y.py) && xs.all (fun d => decide (d.py.depth ≤ 64)) &&
  (xs.all (fun d => match d.py with | .tuple (_ :: _) => true | _ => false) || xs.all (fun d => match d.py with | .tuple _ => false | .none => false | _ => true))
def sortD (xs : List D) : Option (List D) := if sortOk xs = true then some (xs.mergeSort (W.dataLe false D.py)) else none

def b1 (g : D → Option Vl) : List D → Option Vl
  | [x] => g x
  | _ => none
def b2 (g : D → D → Option Vl) : List D → Option Vl
  | [x, y] => g x y
  | _ => none
def i2 (g : Int → Int → Int) : D → D → Option Vl
  | .int i, .int j => some (.d (.int (g i j)))
  | _, _ => none
def bLen (S : Sto) (x : D) : Option Vl := match seqOf S x with
  | some ys => some (.d (.int ys.length))
  | none => match x with
    | .str z => if z.length ≤ sizeLine then some (.d (.int z.length)) else none
    | .loc n => match S[n]? with | some (.dK kvs) => some (.d (.int kvs.length)) | some (.dT kvs) => some (.d (.int kvs.length)) | _ => none
    | _ => none
def bTup (S : Sto) (x : D) : Option Vl := match tupOf x with
  | some _ => some (.d x)
  | none => match lstOf S x with | some ys => some (.d (.tup ys)) | none => none
def bLst (S : Sto) (x : D) : Option Vl := match seqOf S x with | some ys => some (.fl ys) | none => none
def bSort (S : Sto) (x : D) : Option Vl := match seqOf S x with
  | some ys => (sortD ys).map .fl
  | none => none
def bSum (S : Sto) (x : D) : Option Vl := match (lstOf S x).bind intsOf with | some ns => some (.d (.int ns.sum)) | none => none
def bAny (S : Sto) (x : D) : Option Vl := match (lstOf S x).bind blsOf with | some bs => some (.d (.bl (bs.any id))) | none => none
def bAll (S : Sto) (x : D) : Option Vl := match (lstOf S x).bind blsOf with | some bs => some (.d (.bl (bs.all id))) | none => none
def bAbs : D → Option Vl
  | .int i => some (.d (.int (if i < 0 then -i else i)))
  | _ => none
def bInt : D → Option Vl
  | .int i => some (.d (.int i))
  | .bl k => some (.d (.int (if k then 1 else 0)))
  | _ => none
def bDict (S : Sto) : D → Option Vl
  | .loc n => match S[n]? with | some (.dK kvs) => some (.fK kvs) | _ => none
  | _ => none
def bfun (f : Bf) (S : Sto) (xs : List D) : Option Vl := match f with
  | .len => b1 (bLen S) xs
  | .tuple => b1 (bTup S) xs
  | .list => b1 (bLst S) xs
  | .sorted => b1 (bSort S) xs
  | .sum => b1 (bSum S) xs
  | .min => b2 (i2 fun i j => if j < i then j else i) xs
  | .max => b2 (i2 fun i j => if j > i then j else i) xs
  | .abs => b1 bAbs xs
  | .int => b1 bInt xs
  | .any => b1 (bAny S) xs
  | .all => b1 (bAll S) xs
  | .isinst => b2 (fun x T => (isInst S x T).map fun b => .d (.bl b)) xs
  | .dict => b1 (bDict S) xs
  | .set => none

/-- a value may be laid into the place n (the frame's own places begin at b) -/
def okIn (b n : Nat) (d : D) : Bool := d.under 0 || decide (b ≤ n)

/-- a list's place (true), a dict's (false) -/
def mkind (S : Sto) : D → Option Bool
  | .loc n => match S[n]? with | some (.lst _) => some true | some (.dK _) | some (.dT _) => some false | _ => none
  | _ => none
def mApp (b n : Nat) (S : Sto) (ys : List D) (x : D) : Option (Vl × Sto) := if okIn b n x = true ∧ ys.length < sizeLine then some (.d .non, S.set n (.lst (ys ++ [x]))) else none
def mExt (b n : Nat) (S : Sto) (ys : List D) (x : D) : Option (Vl × Sto) := match lsmOf S x with
  | some zs => if zs.all (okIn b n) = true ∧ ys.length + zs.length ≤ sizeLine then some (.d .non, S.set n (.lst (ys ++ zs))) else none
  | none => none
def mPop (n : Nat) (S : Sto) (ys : List D) : Option (Vl × Sto) := match ys[ys.length - 1]? with
  | some y => some (.d y, S.set n (.lst ys.dropLast))
  | none => none
/-- a list's methods -/
def lmeth (b n : Nat) (m : Bm) (S : Sto) (ys : List D) (xs : List D) : Option (Vl × Sto) := match m with
  | .append => match xs with | [x] => mApp b n S ys x | _ => none
  | .extend => match xs with | [x] => mExt b n S ys x | _ => none
  | .pop => match xs with | [] => mPop n S ys | _ => none
  | _ => none
def dPop1 (n : Nat) (S : Sto) (c : Cell) (q : D) : Option (Vl × Sto) := match c with
  | .dK kvs => q.key.bind fun k => (valG kvs k).map fun v => (.d v, S.set n (.dK (dropG kvs k)))
  | _ => none
def dPop2 (n : Nat) (S : Sto) (c : Cell) (q x : D) : Option (Vl × Sto) := match c with
  | .dK kvs => q.key.map fun k => match valG kvs k with
    | some v => (.d v, S.set n (.dK (dropG kvs k)))
    | none => (.d x, S)
  | _ => none
/-- a dict's methods -/
def dmeth (n : Nat) (m : Bm) (S : Sto) (c : Cell) (xs : List D) : Option (Vl × Sto) := match m with
  | .get => match xs with
    | [q] => (dget c q).map fun r => (.d (r.getD .non), S)
    | [q, x] => (dget c q).map fun r => (.d (r.getD x), S)
    | _ => none
  | .pop => match xs with
    | [q] => dPop1 n S c q
    | [q, x] => dPop2 n S c q x
    | _ => none
  | _ => none
def bmeth (b : Nat) (m : Bm) (kd : Bool) (S : Sto) (o : D) (xs : List D) : Option (Vl × Sto) := match o with
  | .loc n => match S[n]? with
    | some (.lst ys) => if kd = true then lmeth b n m S ys xs else none
    | some (.dK kvs) => if kd = false then dmeth n m S (.dK kvs) xs else none
    | some (.dT kvs) => if kd = false then dmeth n m S (.dT kvs) xs else none
    | _ => none
  | _ => none

/-- a[i] = d -/
def setIx (b : Nat) (S : Sto) (a i d : D) : Option Sto := match a with
  | .loc n => if okIn b n d = true then (match S[n]?, i with
    | some (.lst ys), .int k => (ixN ys.length k).map fun j => S.set n (.lst (ys.set j d))
    | some (.dK kvs), i => match i.key with
      | some k => if kvs.length < sizeLine then some (S.set n (.dK (putG kvs k d))) else none
      | none => none
    | some (.dT kvs), i => match i.keyT with
      | some k => if kvs.length < sizeLine then some (S.set n (.dT (putG kvs k d))) else none
      | none => none
    | _, _ => none) else none
  | _ => none
def setFd (b : Nat) (S : Sto) (a : D) (i : Nat) (d : D) : Option Sto := match a with
  | .loc n => if okIn b n d = true then (match S[n]? with
    | some (.ins C fs) => some (S.set n (.ins C (setF fs i d)))
    | _ => none) else none
  | _ => none
def getFd (S : Sto) (a : D) (i : Nat) : Option D := match a with
  | .loc n => match S[n]? with
    | some (.ins _ fs) => getF fs i
    | _ => none
  | _ => none

/-- a fresh thing gets a place -/
def Vl.place (v : Vl) (S : Sto) : Option (D × Sto) := match v with
  | .fl xs => some (.loc S.length, S ++ [.lst xs])
  | .fK kvs => some (.loc S.length, S ++ [.dK kvs])
  | .fT kvs => some (.loc S.length, S ++ [.dT kvs])
  | .d _ => none

/-- what is called from a body -/
structure Cl where
  call : Nat → List D → Nat → Sto → Rd
  con : Nat → Option D
  mth : Nat → Nat → Option Nat
  ini : Nat → Option Nat

inductive Out where
  | nx (ρ : En) (S : Sto) | rt (d : D) (S : Sto) | bk (ρ : En) (S : Sto) | ct (ρ : En) (S : Sto)

/-- what a loop walks: the items, the places that have to stay -/
abbrev Wk := List D × List Nat
def stay (ws : List Nat) (S0 S : Sto) : Bool := ws.all fun n => decide (S[n]? = S0[n]?)
def plOf : D → List Nat
  | .loc n => [n]
  | _ => []
def zipD : List D → List D → List D
  | x :: xs, y :: ys => .tup [x, y] :: zipD xs ys
  | _, _ => []
def rangeD (lo : Int) : Nat → List D
  | 0 => []
  | n + 1 => .int lo :: rangeD (lo + 1) n
def rangeS (lo c : Int) : Nat → List D
  | 0 => []
  | n + 1 => .int lo :: rangeS (lo + c) c n
def rangeN (lo hi st : Int) : Nat := if st = -1 then (lo - hi).toNat else ((hi - lo + st - 1) / st).toNat
def enumD (i : Int) : List D → List D
  | [] => []
  | x :: xs => .tup [.int i, x] :: enumD (i + 1) xs
/-- two sequences, side by side -/
def zipF (r : List D) (S : Sto) : Option (Wk × Sto) := match r with
    | [x, y] => match tupOf x, tupOf y with
      | some xs, some ys => some ((zipD xs ys, []), S)
      | _, _ => match lstOf S x, lstOf S y with
        | some xs, some ys => some ((zipD xs ys, plOf x ++ plOf y), S)
        | _, _ => none
    | _ => none
def kD : Key → D
  | .inl i => .int i
  | .inr s => .str s
def smallZ (i : Int) : Bool := decide (-(2 ^ 62) ≤ i ∧ i < 2 ^ 62)

def wipeE (ρ : En) : List Nat → En
  | [] => ρ
  | i :: is => (wipeE ρ is).set i none

/-- a comprehension's turns -/
def compGo (tg : D → En → Sto → Option (En × Sto)) (tst : En → Sto → Option (Bool × Sto)) (elt : En → Sto → Option (D × Sto)) (ws : List Nat) (S0 : Sto) (ρ : En) : List D → List D → Sto → Option (List D × Sto)
  | [], acc, S => if stay ws S0 S = true then some (acc, S) else none
  | x :: xs, acc, S => if stay ws S0 S = true then
      (tg x ρ S).bind fun r => (tst r.1 r.2).bind fun t =>
        if t.1 = true then (elt r.1 t.2).bind fun y => if acc.length < sizeLine then compGo tg tst elt ws S0 ρ xs (acc ++ [y.1]) y.2 else none
        else compGo tg tst elt ws S0 ρ xs acc t.2
    else none
/-- .. of a comprehension whose turns add to what is there -/
def compGoA (tg : D → En → Sto → Option (En × Sto)) (tst : En → Sto → Option (Bool × Sto)) (step : List D → En → Sto → Option (List D × Sto)) (ws : List Nat) (S0 : Sto) (ρ : En) : List D → List D → Sto → Option (List D × Sto)
  | [], acc, S => if stay ws S0 S = true then some (acc, S) else none
  | x :: xs, acc, S => if stay ws S0 S = true then
      (tg x ρ S).bind fun r => (tst r.1 r.2).bind fun t =>
        if t.1 = true then (step acc r.1 t.2).bind fun q => compGoA tg tst step ws S0 ρ xs q.1 q.2
        else compGoA tg tst step ws S0 ρ xs acc t.2
    else none
/-- a dict comprehension's turns -/
def dcGo (tg : D → En → Sto → Option (En × Sto)) (tst : En → Sto → Option (Bool × Sto)) (kx vx : En → Sto → Option (D × Sto)) (ws : List Nat) (S0 : Sto) (ρ : En) : List D → List (Key × D) → Sto → Option (List (Key × D) × Sto)
  | [], acc, S => if stay ws S0 S = true then some (acc, S) else none
  | x :: xs, acc, S => if stay ws S0 S = true then
      (tg x ρ S).bind fun r => (tst r.1 r.2).bind fun t =>
        if t.1 = true then (kx r.1 t.2).bind fun q => (vx r.1 q.2).bind fun v => q.1.key.bind fun c => if acc.length < sizeLine then dcGo tg tst kx vx ws S0 ρ xs (putG acc c v.1) v.2 else none
        else dcGo tg tst kx vx ws S0 ρ xs acc t.2
    else none
def forGo (tg : D → En → Sto → Option (En × Sto)) (body : En → Sto → Option Out) (ws : List Nat) (S0 : Sto) : List D → En → Sto → Option Out
  | [], ρ, S => if stay ws S0 S = true then some (.nx ρ S) else none
  | x :: xs, ρ, S => if stay ws S0 S = true then
      (tg x ρ S).bind fun r => (body r.1 r.2).bind fun
        | .nx ρ S => forGo tg body ws S0 xs ρ S
        | .ct ρ S => forGo tg body ws S0 xs ρ S
        | .bk ρ S => some (.nx ρ S)
        | .rt d S => some (.rt d S)
    else none
def whlGo (c : En → Sto → Option (Bool × Sto)) (body : En → Sto → Option Out) : Nat → En → Sto → Option Out
  | 0, _, _ => none
  | n + 1, ρ, S => (c ρ S).bind fun t =>
      if t.1 = true then (body ρ t.2).bind fun
        | .nx ρ S => whlGo c body n ρ S
        | .ct ρ S => whlGo c body n ρ S
        | .bk ρ S => some (.nx ρ S)
        | .rt d S => some (.rt d S)
      else some (.nx ρ t.2)
abbrev fuelW : Nat := 1000000000000

def dOf (r : Rv) : Rd := r.bind fun r => r.1.frz.map fun d => (d, r.2)
def tOf (r : Rd) : Option (Bool × Sto) := r.bind fun r => (truth r.2 r.1).map fun b => (b, r.2)
def mkD (c : Cl) (b : Nat) (C : Nat) (xs : List D) (S : Sto) : Rd := match c.ini C with
  | some f => (c.call f (.loc S.length :: xs) b (S ++ [.ins C []])).bind fun r => match r.1 with
    | .non => some (.loc S.length, r.2)
    | _ => none
  | none => none
def methD (c : Cl) (S : Sto) (o : D) (m : Nat) : Option Nat := match o with
  | .loc n => match S[n]? with
    | some (.ins C _) => c.mth C m
    | _ => none
  | _ => none

mutual
def Tg.slots : Tg → List Nat
  | .nm i => [i]
  | .tup ts => Tgs.slots ts
  | _ => []
def Tgs.slots : Tgs → List Nat
  | .nil => []
  | .cons t ts => Tg.slots t ++ Tgs.slots ts
end
mutual
def ev (c : Cl) (b : Nat) : Ex → En → Sto → Rv
  | .var i, ρ, S => (ρ[i]?).join.map fun d => (.d d, S)
  | .cst d, _, S => some (.d d, S)
  | .con i, _, S => (c.con i).map fun d => (.d d, S)
  | .new e, ρ, S => (ev c b e ρ S).bind fun r => (r.1.place r.2).map fun q => (.d q.1, q.2)
  | .emK, _, S => some (.fK [], S)
  | .emT, _, S => some (.fT [], S)
  | .bin o x y, ρ, S => (dOf (ev c b x ρ S)).bind fun r => (dOf (ev c b y ρ r.2)).bind fun q => (binop o q.2 r.1 q.1).map fun v => (v, q.2)
  | .neg x, ρ, S => (dOf (ev c b x ρ S)).bind fun r => match r.1 with
    | .int i => some (.d (.int (-i)), r.2)
    | _ => none
  | .cmp o x y, ρ, S => (dOf (ev c b x ρ S)).bind fun r => (dOf (ev c b y ρ r.2)).bind fun q => (cmpop o q.2 r.1 q.1).map fun v => (.d (.bl v), q.2)
  | .cmp2 o o' x y z, ρ, S => (dOf (ev c b x ρ S)).bind fun r => (dOf (ev c b y ρ r.2)).bind fun q => (cmpop o q.2 r.1 q.1).bind fun v =>
      if v = true then (dOf (ev c b z ρ q.2)).bind fun t => (cmpop o' t.2 q.1 t.1).map fun v => (.d (.bl v), t.2) else some (.d (.bl false), q.2)
  | .and x y, ρ, S => (dOf (ev c b x ρ S)).bind fun r => (truth r.2 r.1).bind fun t => if t = true then ev c b y ρ r.2 else some (.d r.1, r.2)
  | .or x y, ρ, S => (dOf (ev c b x ρ S)).bind fun r => (truth r.2 r.1).bind fun t => if t = true then some (.d r.1, r.2) else ev c b y ρ r.2
  | .not x, ρ, S => (tOf (dOf (ev c b x ρ S))).map fun t => (.d (.bl (!t.1)), t.2)
  | .ite x y z, ρ, S => (tOf (dOf (ev c b x ρ S))).bind fun t => if t.1 = true then ev c b y ρ t.2 else ev c b z ρ t.2
  | .tup es, ρ, S => (evs c b es ρ S).bind fun r => (tz r.1).map fun v => (v, r.2)
  | .lst es, ρ, S => (evs c b es ρ S).bind fun r => (lz r.1).map fun v => (v, r.2)
  | .call f es, ρ, S => (evs c b es ρ S).bind fun r => (c.call f r.1 b r.2).map fun q => (.d q.1, q.2)
  | .mk C es, ρ, S => (evs c b es ρ S).bind fun r => (mkD c b C r.1 r.2).map fun q => (.d q.1, q.2)
  | .meth o m es, ρ, S => (dOf (ev c b o ρ S)).bind fun r => (methD c r.2 r.1 m).bind fun f => (evs c b es ρ r.2).bind fun q =>
      (c.call f (r.1 :: q.1) b q.2).map fun q => (.d q.1, q.2)
  | .bf f es, ρ, S => (evs c b es ρ S).bind fun r => (bfun f r.2 r.1).map fun v => (v, r.2)
  | .bfi f it, ρ, S => (evi c b it ρ S).bind fun r => match f with
    | .list => (lz r.1.1).map fun v => (v, r.2)
    | .tuple => (tz r.1.1).map fun v => (v, r.2)
    | .sorted => (sortD r.1.1).map fun v => (.fl v, r.2)
    | _ => none
  | .bm m o es, ρ, S => (dOf (ev c b o ρ S)).bind fun r => (mkind r.2 r.1).bind fun kd => (evs c b es ρ r.2).bind fun q => bmeth b m kd q.2 r.1 q.1
  | .ix x y, ρ, S => (dOf (ev c b x ρ S)).bind fun r => (dOf (ev c b y ρ r.2)).bind fun q => (itemAt q.2 r.1 q.1).map fun v => (.d v, q.2)
  | .sl x lo hi s, ρ, S => (dOf (ev c b x ρ S)).bind fun r => (evo c b lo ρ r.2).bind fun l => (evo c b hi ρ l.2).bind fun h => (slice h.2 r.1 l.1 h.1 s).map fun v => (v, h.2)
  | .fld o i, ρ, S => (dOf (ev c b o ρ S)).bind fun r => (getFd r.2 r.1 i).map fun v => (.d v, r.2)
  | .comp e own t it ifs, ρ, S => (evi c b it ρ S).bind fun w =>
      (compGo (fun d ρ S => asg c b t d ρ S) (fun ρ S => evt c b ifs ρ S) (fun ρ S => dOf (ev c b e ρ S)) w.1.2 w.2 (wipeE ρ own) w.1.1 [] w.2).map fun r => (.fl r.1, r.2)
  | .comp2 e own t it ifs t2 it2 ifs2, ρ, S => (evi c b it ρ S).bind fun w =>
      (compGoA (fun d ρ S => asg c b t d ρ S) (fun ρ S => evt c b ifs ρ S) (fun acc ρ S => (evi c b it2 ρ S).bind fun w2 =>
        compGo (fun d ρ S => asg c b t2 d ρ S) (fun ρ S => evt c b ifs2 ρ S) (fun ρ S => dOf (ev c b e ρ S)) w2.1.2 w2.2 (wipeE ρ t2.slots) w2.1.1 acc w2.2) w.1.2 w.2 (wipeE ρ own) w.1.1 [] w.2).map fun r => (.fl r.1, r.2)
  | .dcomp k v own t it ifs, ρ, S => (evi c b it ρ S).bind fun w =>
      (dcGo (fun d ρ S => asg c b t d ρ S) (fun ρ S => evt c b ifs ρ S) (fun ρ S => dOf (ev c b k ρ S)) (fun ρ S => dOf (ev c b v ρ S)) w.1.2 w.2 (wipeE ρ own) w.1.1 [] w.2).map fun r => (.fK r.1, r.2)
def evs (c : Cl) (b : Nat) : Exs → En → Sto → Option (List D × Sto)
  | .nil, _, S => some ([], S)
  | .cons e es, ρ, S => (dOf (ev c b e ρ S)).bind fun r => (evs c b es ρ r.2).map fun q => (r.1 :: q.1, q.2)
  | .star e es, ρ, S => (dOf (ev c b e ρ S)).bind fun r => (seqOf r.2 r.1).bind fun xs => (evs c b es ρ r.2).map fun q => (xs ++ q.1, q.2)
def evo (c : Cl) (b : Nat) : Ox → En → Sto → Option (Option Int × Sto)
  | .no, _, S => some (none, S)
  | .so e, ρ, S => (dOf (ev c b e ρ S)).bind fun r => match r.1 with
    | .int i => some (some i, r.2)
    | _ => none
def evi (c : Cl) (b : Nat) : Src → En → Sto → Option (Wk × Sto)
  | .ex e, ρ, S => (dOf (ev c b e ρ S)).bind fun r => (seqOf r.2 r.1).map fun xs => ((xs, plOf r.1), r.2)
  | .rng es, ρ, S => (evs c b es ρ S).bind fun r => match r.1 with
    | [.int n] => if smallZ n = true then some ((rangeD 0 n.toNat, []), r.2) else none
    | [.int lo, .int hi] => if (smallZ lo && smallZ hi) = true then some ((rangeD lo (hi - lo).toNat, []), r.2) else none
    | [.int lo, .int hi, .int st] => if (smallZ lo && smallZ hi && (decide (st = -1) || decide (0 < st ∧ st < 1073741824))) = true then some ((rangeS lo st (rangeN lo hi st), []), r.2) else none
    | _ => none
  | .zip es, ρ, S => (evs c b es ρ S).bind fun r => zipF r.1 r.2
  | .enum e, ρ, S => (dOf (ev c b e ρ S)).bind fun r => (seqOf r.2 r.1).map fun xs => ((enumD 0 xs, plOf r.1), r.2)
  | .items e, ρ, S => none
  | .vals e, ρ, S => none
  | .rev e, ρ, S => none
def evt (c : Cl) (b : Nat) : Exs → En → Sto → Option (Bool × Sto)
  | .nil, _, S => some (true, S)
  | .cons e es, ρ, S => (tOf (dOf (ev c b e ρ S))).bind fun t => if t.1 = true then evt c b es ρ t.2 else some (false, t.2)
  | .star _ _, _, _ => none
def asg (c : Cl) (b : Nat) : Tg → D → En → Sto → Option (En × Sto)
  | .nm i, d, ρ, S => if i < ρ.length then some (ρ.set i (some d), S) else none
  | .tup ts, d, ρ, S => (tupOf d).bind fun xs => asgs c b ts xs ρ S
  | .ix x y, d, ρ, S => (dOf (ev c b x ρ S)).bind fun r => (dOf (ev c b y ρ r.2)).bind fun q => (setIx b q.2 r.1 q.1 d).map fun S => (ρ, S)
  | .fld o i, d, ρ, S => (dOf (ev c b o ρ S)).bind fun r => (setFd b r.2 r.1 i d).map fun S => (ρ, S)
def asgs (c : Cl) (b : Nat) : Tgs → List D → En → Sto → Option (En × Sto)
  | .nil, [], ρ, S => some (ρ, S)
  | .cons t ts, d :: ds, ρ, S => (asg c b t d ρ S).bind fun r => asgs c b ts ds r.1 r.2
  | _, _, _, _ => none
end

def augI (o : Operator) : D → D → Option D
  | .int a, .int b => match o with
    | .Add => some (.int (a + b))
    | .Sub => some (.int (a - b))
    | _ => none
  | _, _ => none
/-- an instance's class -/
def clsAt (S : Sto) : D → Option Nat
  | .loc n => match S[n]? with | some (.ins C _) => some C | _ => none
  | _ => none
def setMany (ρ : En) : List Nat → List D → Option En
  | [], [] => some ρ
  | i :: is, d :: ds => if i < ρ.length then (setMany (ρ.set i (some d)) is ds) else none
  | _, _ => none
mutual
def exc (c : Cl) (b : Nat) : Sm → En → Sto → Option Out
  | .set t e, ρ, S => (dOf (ev c b e ρ S)).bind fun r => (asg c b t r.1 ρ r.2).map fun q => .nx q.1 q.2
  | .par is es, ρ, S => (evs c b es ρ S).bind fun r => (setMany ρ is r.1).map fun ρ => .nx ρ r.2
  | .aug i o e, ρ, S => (ρ[i]?).join.bind fun x => (dOf (ev c b e ρ S)).bind fun r => (augI o x r.1).map fun v => .nx (ρ.set i (some v)) r.2
  | .augIx x y o e, ρ, S => (dOf (ev c b x ρ S)).bind fun r => (dOf (ev c b y ρ r.2)).bind fun q => (itemAt q.2 r.1 q.1).bind fun old =>
      (dOf (ev c b e ρ q.2)).bind fun t => (augI o old t.1).bind fun v => (setIx b t.2 r.1 q.1 v).map fun S => .nx ρ S
  | .augF x i o e, ρ, S => (dOf (ev c b x ρ S)).bind fun r => (getFd r.2 r.1 i).bind fun old =>
      (dOf (ev c b e ρ r.2)).bind fun t => (augI o old t.1).bind fun v => if clsAt t.2 r.1 = clsAt r.2 r.1 then (setFd b t.2 r.1 i v).map fun S => .nx ρ S else none
  | .ex e, ρ, S => (ev c b e ρ S).map fun r => .nx ρ r.2
  | .ret e, ρ, S => (dOf (ev c b e ρ S)).map fun r => .rt r.1 r.2
  | .iff x a z, ρ, S => (tOf (dOf (ev c b x ρ S))).bind fun t => if t.1 = true then excs c b a ρ t.2 else excs c b z ρ t.2
  | .for t it a, ρ, S => (evi c b it ρ S).bind fun w => forGo (fun d ρ S => asg c b t d ρ S) (fun ρ S => excs c b a ρ S) w.1.2 w.2 w.1.1 ρ w.2
  | .whl x a, ρ, S => whlGo (fun ρ S => tOf (dOf (ev c b x ρ S))) (fun ρ S => excs c b a ρ S) fuelW ρ S
  | .brk, ρ, S => some (.bk ρ S)
  | .cnt, ρ, S => some (.ct ρ S)
  | .pass, ρ, S => some (.nx ρ S)
def excs (c : Cl) (b : Nat) : Sms → En → Sto → Option Out
  | .nil, ρ, S => some (.nx ρ S)
  | .cons s ss, ρ, S => (exc c b s ρ S).bind fun
    | .nx ρ S => excs c b ss ρ S
    | o => some o
end

structure Df where
  n : Nat
  np : Nat
  drop : Bool
  body : Sms
structure Pg where
  defs : List Df
  con : Nat → Option D
  mth : Nat → Nat → Option Nat
  ini : Nat → Option Nat

/-- a def's end: what it hands back, the places that stay -/
def fin (drop : Bool) (b : Nat) (d : D) (S : Sto) : Rd :=
  if drop = true then
    (match d with
      | .loc n => if n < b then some d else match S[n]? with
        | some (.lst xs) => if D.unders b xs = true then some (.lst xs) else none
        | _ => none
      | d => if d.under b = true then some d else none).map fun d => (d, S.take b)
  else some (d, S)
def run (P : Pg) : Nat → Nat → List D → Nat → Sto → Rd
  | 0, _, _, _, _ => none
  | k + 1, f, xs, b, S => match P.defs[f]? with
    | some df => if xs.length = df.np then
        (excs ⟨run P k, P.con, P.mth, P.ini⟩ (if df.drop = true then S.length else b) df.body (xs.map some ++ List.replicate (df.n - df.np) none) S).bind fun
          | .nx _ S' => fin df.drop S.length .non S'
          | .rt d S' => fin df.drop S.length d S'
          | _ => none
      else none
    | none => none
end EV
end
section
set_option maxRecDepth 100000
set_option autoImplicit false
/-! EV: how plain values lie in the layer's heap. -/
namespace EV
open PySem L2

/-- the written part, and where the classes stand -/
structure Kx where
  K : PySem.W.Frag
  ca : Nat → Option Addr

mutual
def RV (k : Kx) (G : Hp) (m : List Addr) : D → V → Prop
  | .non, v => v = .non
  | .bl b, v => v = .bl b
  | .int i, v => v = .int i
  | .str s, v => v = .str s
  | .ty n, v => v = .ty n
  | .cl n, v => ∃ a, v = .ref a ∧ k.ca n = some a
  | .tup xs, v => ∃ a vs, v = .ref a ∧ G a = some (.tup vs) ∧ RVs k G m xs vs
  | .ctup xs, v => ∃ a vs, v = .ref a ∧ SqT k.K (fun _ => none) a vs ∧ RVs k G m xs vs
  | .lst xs, v => ∃ a vs, v = .ref a ∧ G a = some (.lst vs) ∧ RVs k G m xs vs
  | .slst xs, v => ∃ a vs, v = .ref a ∧ SqL k.K G a vs ∧ RVs k G m xs vs
  | .loc n, v => ∃ a, v = .ref a ∧ m[n]? = some a
def RVs (k : Kx) (G : Hp) (m : List Addr) : List D → List V → Prop
  | [], vs => vs = []
  | x :: xs, vs => ∃ v r, vs = v :: r ∧ RV k G m x v ∧ RVs k G m xs r
end

theorem SqL.mono {K : PySem.W.Frag} {G H : Hp} (s : Same G H) {a : Addr} {vs : List V} (h : SqL K G a vs) : SqL K H a vs := s.seq h
theorem SqT.mono {K : PySem.W.Frag} {G H : Hp} (s : Same G H) {a : Addr} {vs : List V} (h : SqT K G a vs) : SqT K H a vs := by
  rcases h with (h | ⟨o, h⟩) | h
  · exact .inl (.inl (s _ _ h))
  · exact .inl (.inr ⟨o, s _ _ h⟩)
  · exact .inr h

/-- an older world and a later one: what is frozen stays frozen, the places stay, what nobody holds stays as it is -/
structure Ext (G : Hp) (m : List Addr) (H : Hp) (G' : Hp) (m' : List Addr) (H' : Hp) : Prop where
  sg : Same G G'
  pm : ∃ r, m' = m ++ r
  fr : ∀ a o, G a = none → a ∉ m → H a = some o → H' a = some o ∧ G' a = none ∧ a ∉ m'
  dom : ∀ a, H' a = none → H a = none
theorem Ext.refl (G : Hp) (m : List Addr) (H : Hp) : Ext G m H G m H := ⟨Same.refl G, ⟨[], by simp⟩, fun a o h1 h2 h3 => ⟨h3, h1, h2⟩, fun _ h => h⟩
theorem Ext.trans {G G1 G2 H H1 H2 : Hp} {m m1 m2 : List Addr} (a : Ext G m H G1 m1 H1) (b : Ext G1 m1 H1 G2 m2 H2) : Ext G m H G2 m2 H2 := by
  refine ⟨a.sg.trans b.sg, ?_, fun x o h1 h2 h3 => ?_, fun x h => a.dom x (b.dom x h)⟩
  · obtain ⟨r, e1⟩ := a.pm
    obtain ⟨r', e2⟩ := b.pm
    exact ⟨r ++ r', by rw [e2, e1]; simp⟩
  · obtain ⟨q1, q2, q3⟩ := a.fr x o h1 h2 h3
    exact b.fr x o q2 q3 q1
theorem Ext.at {G G1 H H1 : Hp} {m m1 : List Addr} (a : Ext G m H G1 m1 H1) {n : Nat} {x : Addr} (h : m[n]? = some x) : m1[n]? = some x := by
  obtain ⟨r, e⟩ := a.pm
  subst e
  have hn : n < m.length := (List.getElem?_eq_some_iff.mp h).1
  rw [List.getElem?_append_left hn]
  exact h

/-- the part of Ext that readings of values need -/
structure Lat (G : Hp) (m : List Addr) (G' : Hp) (m' : List Addr) : Prop where
  sg : Same G G'
  pm : ∃ r, m' = m ++ r
theorem Ext.lat {G G1 H H1 : Hp} {m m1 : List Addr} (a : Ext G m H G1 m1 H1) : Lat G m G1 m1 := ⟨a.sg, a.pm⟩
theorem Lat.refl (G : Hp) (m : List Addr) : Lat G m G m := ⟨Same.refl G, ⟨[], by simp⟩⟩
theorem Lat.trans {G G1 G2 : Hp} {m m1 m2 : List Addr} (a : Lat G m G1 m1) (b : Lat G1 m1 G2 m2) : Lat G m G2 m2 := by
  refine ⟨a.sg.trans b.sg, ?_⟩
  obtain ⟨r, e1⟩ := a.pm
  obtain ⟨r', e2⟩ := b.pm
  exact ⟨r ++ r', by rw [e2, e1]; simp⟩
theorem Lat.at {G G1 : Hp} {m m1 : List Addr} (a : Lat G m G1 m1) {n : Nat} {x : Addr} (h : m[n]? = some x) : m1[n]? = some x := by
  obtain ⟨r, e⟩ := a.pm
  subst e
  rw [List.getElem?_append_left (List.getElem?_eq_some_iff.mp h).1]
  exact h
section
variable {k : Kx} {G G' : Hp} {m m' : List Addr}
mutual
theorem RV.gen (hG : Same G G') (hm : ∀ (n : Nat) (x : Addr), m[n]? = some x → m'[n]? = some x) : ∀ {d : D} {v : V}, RV k G m d v → RV k G' m' d v
  | .non, _, h | .bl _, _, h | .int _, _, h | .str _, _, h | .ty _, _, h | .cl _, _, h => by simpa only [RV] using h
  | .tup xs, v, h => by
    simp only [RV] at h ⊢
    obtain ⟨a, vs, e, g, r⟩ := h
    exact ⟨a, vs, e, hG _ _ g, RVs.gen hG hm r⟩
  | .ctup xs, v, h => by
    simp only [RV] at h ⊢
    obtain ⟨a, vs, e, g, r⟩ := h
    exact ⟨a, vs, e, g, RVs.gen hG hm r⟩
  | .lst xs, v, h => by
    simp only [RV] at h ⊢
    obtain ⟨a, vs, e, g, r⟩ := h
    exact ⟨a, vs, e, hG _ _ g, RVs.gen hG hm r⟩
  | .slst xs, v, h => by
    simp only [RV] at h ⊢
    obtain ⟨a, vs, e, g, r⟩ := h
    exact ⟨a, vs, e, SqL.mono hG g, RVs.gen hG hm r⟩
  | .loc n, v, h => by
    simp only [RV] at h ⊢
    obtain ⟨a, e, g⟩ := h
    exact ⟨a, e, hm _ _ g⟩
theorem RVs.gen (hG : Same G G') (hm : ∀ (n : Nat) (x : Addr), m[n]? = some x → m'[n]? = some x) : ∀ {d : List D} {v : List V}, RVs k G m d v → RVs k G' m' d v
  | [], v, h => by simpa only [RVs] using h
  | x :: xs, v, h => by
    simp only [RVs] at h ⊢
    obtain ⟨a, r, e, g, q⟩ := h
    exact ⟨a, r, e, RV.gen hG hm g, RVs.gen hG hm q⟩
end
theorem RV.ext {H H' : Hp} (e : Ext G m H G' m' H') {d : D} {v : V} (h : RV k G m d v) : RV k G' m' d v := h.gen e.sg fun _ _ => e.at
theorem RV.lat (e : Lat G m G' m') {d : D} {v : V} (h : RV k G m d v) : RV k G' m' d v := h.gen e.sg fun _ _ => e.at
theorem RVs.ext {H H' : Hp} (e : Ext G m H G' m' H') {d : List D} {v : List V} (h : RVs k G m d v) : RVs k G' m' d v := h.gen e.sg fun _ _ => e.at
mutual
/-- a value below b needs the first b places only -/
theorem RV.low {b : Nat} : ∀ {d : D} {v : V}, D.under b d = true → RV k G m d v → RV k G (m.take b) d v
  | .non, _, _, h | .bl _, _, _, h | .int _, _, _, h | .str _, _, _, h | .ty _, _, _, h | .cl _, _, _, h => by simpa only [RV] using h
  | .tup xs, v, u, h => by
    simp only [RV] at h ⊢
    simp only [D.under] at u
    obtain ⟨a, vs, e, g, r⟩ := h
    exact ⟨a, vs, e, g, RVs.low u r⟩
  | .ctup xs, v, u, h => by
    simp only [RV] at h ⊢
    simp only [D.under] at u
    obtain ⟨a, vs, e, g, r⟩ := h
    exact ⟨a, vs, e, g, RVs.low u r⟩
  | .lst xs, v, u, h => by
    simp only [RV] at h ⊢
    simp only [D.under] at u
    obtain ⟨a, vs, e, g, r⟩ := h
    exact ⟨a, vs, e, g, RVs.low u r⟩
  | .slst xs, v, u, h => by
    simp only [RV] at h ⊢
    simp only [D.under] at u
    obtain ⟨a, vs, e, g, r⟩ := h
    exact ⟨a, vs, e, g, RVs.low u r⟩
  | .loc n, v, u, h => by
    simp only [RV] at h ⊢
    simp only [D.under, decide_eq_true_eq] at u
    obtain ⟨a, e, g⟩ := h
    refine ⟨a, e, ?_⟩
    rw [List.getElem?_take, if_pos u]
    exact g
theorem RVs.low {b : Nat} : ∀ {d : List D} {v : List V}, D.unders b d = true → RVs k G m d v → RVs k G (m.take b) d v
  | [], v, _, h => by simpa only [RVs] using h
  | x :: xs, v, u, h => by
    simp only [RVs] at h ⊢
    simp only [D.unders, Bool.and_eq_true] at u
    obtain ⟨a, r, e, g, q⟩ := h
    exact ⟨a, r, e, RV.low u.1 g, RVs.low u.2 q⟩
end
mutual
theorem D.under_mono {b c : Nat} (h : b ≤ c) : ∀ {d : D}, D.under b d = true → D.under c d = true
  | .non, _ | .bl _, _ | .int _, _ | .str _, _ | .ty _, _ | .cl _, _ => by simp [D.under]
  | .tup xs, u | .ctup xs, u | .lst xs, u | .slst xs, u => by
    simp only [D.under] at u ⊢
    exact D.unders_mono h u
  | .loc n, u => by
    simp only [D.under, decide_eq_true_eq] at u ⊢
    omega
theorem D.unders_mono {b c : Nat} (h : b ≤ c) : ∀ {d : List D}, D.unders b d = true → D.unders c d = true
  | [], _ => by simp [D.unders]
  | x :: xs, u => by
    simp only [D.unders, Bool.and_eq_true] at u ⊢
    exact ⟨D.under_mono h u.1, D.unders_mono h u.2⟩
end
theorem RVs.length : ∀ {d : List D} {v : List V}, RVs k G m d v → d.length = v.length
  | [], v, h => by simp only [RVs] at h; simp [h]
  | x :: xs, v, h => by
    simp only [RVs] at h
    obtain ⟨a, r, rfl, g, q⟩ := h
    simp [RVs.length q]
theorem RVs.append : ∀ {d d' : List D} {v v' : List V}, RVs k G m d v → RVs k G m d' v' → RVs k G m (d ++ d') (v ++ v')
  | [], _, v, _, h, h' => by simp only [RVs] at h; subst h; exact h'
  | x :: xs, _, v, _, h, h' => by
    simp only [RVs] at h
    obtain ⟨a, r, rfl, g, q⟩ := h
    simp only [List.cons_append, RVs]
    exact ⟨a, _, rfl, g, RVs.append q h'⟩
theorem RVs.get : ∀ {d : List D} {v : List V}, RVs k G m d v → ∀ {i : Nat} {x : D}, d[i]? = some x → ∃ y, v[i]? = some y ∧ RV k G m x y
  | [], _, _, i, x, e => by simp at e
  | z :: zs, v, h, i, x, e => by
    simp only [RVs] at h
    obtain ⟨a, r, rfl, g, q⟩ := h
    cases i with
    | zero => simp at e; subst e; exact ⟨a, by simp, g⟩
    | succ i =>
      obtain ⟨y, e1, e2⟩ := RVs.get q (i := i) (x := x) (by simpa using e)
      exact ⟨y, by simpa using e1, e2⟩
theorem RVs.take : ∀ {d : List D} {v : List V} (n : Nat), RVs k G m d v → RVs k G m (d.take n) (v.take n)
  | [], v, n, h => by simp only [RVs] at h; subst h; simp [RVs]
  | x :: xs, v, n, h => by
    simp only [RVs] at h
    obtain ⟨a, r, rfl, g, q⟩ := h
    cases n with
    | zero => simp [RVs]
    | succ n =>
      simp only [List.take_succ_cons, RVs]
      exact ⟨a, _, rfl, g, RVs.take n q⟩
theorem RVs.drop : ∀ {d : List D} {v : List V} (n : Nat), RVs k G m d v → RVs k G m (d.drop n) (v.drop n)
  | [], v, n, h => by simp only [RVs] at h; subst h; simp [RVs]
  | x :: xs, v, n, h => by
    have h0 := h
    simp only [RVs] at h
    obtain ⟨a, r, rfl, g, q⟩ := h
    cases n with
    | zero => simpa using h0
    | succ n => simpa using RVs.drop n q
theorem RVs.set : ∀ {d : List D} {v : List V} {x : D} {y : V} (i : Nat), RVs k G m d v → RV k G m x y → RVs k G m (d.set i x) (v.set i y)
  | [], v, x, y, i, h, _ => by simp only [RVs] at h; subst h; simp [RVs]
  | z :: zs, v, x, y, i, h, hx => by
    simp only [RVs] at h
    obtain ⟨a, r, rfl, g, q⟩ := h
    cases i with
    | zero => simp only [List.set_cons_zero, RVs]; exact ⟨_, _, rfl, hx, q⟩
    | succ i => simp only [List.set_cons_succ, RVs]; exact ⟨_, _, rfl, g, RVs.set i q hx⟩
theorem RVs.nil : RVs k G m [] [] := by simp [RVs]
theorem RVs.cons {x : D} {y : V} {d : List D} {v : List V} (h : RV k G m x y) (r : RVs k G m d v) : RVs k G m (x :: d) (y :: v) := by
  simp only [RVs]; exact ⟨_, _, rfl, h, r⟩
theorem RVs.one {x : D} {y : V} (h : RV k G m x y) : RVs k G m [x] [y] := .cons h .nil
theorem RVs.inv1 {x : D} {d : List D} {v : List V} (h : RVs k G m (x :: d) v) : ∃ y r, v = y :: r ∧ RV k G m x y ∧ RVs k G m d r := by simpa only [RVs] using h
theorem RVs.inv0 {v : List V} (h : RVs k G m [] v) : v = [] := by simpa only [RVs] using h
theorem RVs.reverse : ∀ {d : List D} {v : List V}, RVs k G m d v → RVs k G m d.reverse v.reverse
  | [], v, h => by rw [RVs.inv0 h]; exact .nil
  | x :: xs, v, h => by
    obtain ⟨y, r, rfl, g, q⟩ := h.inv1
    rw [List.reverse_cons, List.reverse_cons]
    exact (RVs.reverse q).append (.one g)
theorem RVs.rep {d : List D} {v : List V} (h : RVs k G m d v) : ∀ n : Nat, RVs k G m (List.replicate n d).flatten (List.replicate n v).flatten
  | 0 => by simp [RVs]
  | n + 1 => by
    rw [List.replicate_succ, List.replicate_succ, List.flatten_cons, List.flatten_cons]
    exact h.append (RVs.rep h n)
theorem RVs.of_get : ∀ {d : List D} {v : List V}, d.length = v.length → (∀ (i : Nat) (x : D) (y : V), d[i]? = some x → v[i]? = some y → RV k G m x y) → RVs k G m d v
  | [], v, e, _ => by cases v with | nil => exact .nil | cons => simp at e
  | x :: xs, v, e, h => by
    cases v with
    | nil => simp at e
    | cons y ys => exact .cons (h 0 x y rfl rfl) (RVs.of_get (by simpa using e) fun i a b p q => h (i + 1) a b (by simpa using p) (by simpa using q))
end

/-- keyed lists -/
def RKs {κ : Type} (k : Kx) (G : Hp) (m : List Addr) : List (κ × D) → List (κ × V) → Prop
  | [], vs => vs = []
  | (q, x) :: xs, vs => ∃ v r, vs = (q, v) :: r ∧ RV k G m x v ∧ RKs k G m xs r

/-- what lies at a place -/
def RC (k : Kx) (fl : List Str) (G : Hp) (m : List Addr) (H : Hp) (a : Addr) : Cell → Prop
  | .lst xs => ∃ vs, H a = some (.lst vs) ∧ RVs k G m xs vs
  | .dK kvs => ∃ ws, H a = some (.dK ws) ∧ RKs k G m kvs ws
  | .dT kvs => ∃ ws, H a = some (.dT ws) ∧ RKs k G m kvs ws
  | .ins C fs => ∃ ca dx ws, k.ca C = some ca ∧ H a = some (.ins ca dx ws) ∧ (ws.map (·.1)).Nodup ∧ (∀ f ∈ ws.map (·.1), f ∈ fl) ∧ fs.length ≤ fl.length ∧
      (∀ (i : Nat) (x : Str), fl[i]? = some x → match getF fs i with | some d => ∃ v, ws.lookup x = some v ∧ RV k G m d v | none => ws.lookup x = none)

def Cell.under (b : Nat) : Cell → Bool
  | .lst xs => D.unders b xs
  | .dK kvs => kvs.all fun kv => kv.2.under b
  | .dT kvs => kvs.all fun kv => kv.2.under b
  | .ins _ fs => fs.all fun | some d => d.under b | none => true

/-- the whole state: the frozen part G, the places m, the store S, as the heap H has them; bs: the frames' bases -/
structure Sim (k : Kx) (fl : List Str) (bs : List Nat) (G : Hp) (m : List Addr) (S : Sto) (H : Hp) : Prop where
  sub : Same G H
  len : m.length = S.length
  nd : m.Nodup
  out : ∀ a ∈ m, G a = none
  cel : ∀ (n : Nat) (c : Cell) (a : Addr), S[n]? = some c → m[n]? = some a → RC k fl G m H a c
  lo : ∀ b ∈ bs, b ≤ S.length ∧ ∀ (n : Nat) (c : Cell), n < b → S[n]? = some c → c.under b = true

/-- a result: a value, or a fresh thing (it was not there in H0) -/
def RL (k : Kx) (H0 : Hp) (G : Hp) (m : List Addr) (H : Hp) : Vl → V → Prop
  | .d x, v => RV k G m x v
  | .fl xs, v => ∃ a vs, v = .ref a ∧ H0 a = none ∧ H a = some (.lst vs) ∧ G a = none ∧ a ∉ m ∧ RVs k G m xs vs
  | .fK kvs, v => ∃ a ws, v = .ref a ∧ H0 a = none ∧ H a = some (.dK ws) ∧ G a = none ∧ a ∉ m ∧ RKs k G m kvs ws
  | .fT kvs, v => ∃ a ws, v = .ref a ∧ H0 a = none ∧ H a = some (.dT ws) ∧ G a = none ∧ a ∉ m ∧ RKs k G m kvs ws

/-- the slots -/
def RE (k : Kx) (G : Hp) (m : List Addr) (ρ : En) (σ : L2.St) : Prop := ρ.length = σ.length ∧ ∀ (i : Nat) (d : D), ρ[i]? = some (some d) → ∃ v, σ[i]? = some (some v) ∧ RV k G m d v

section
variable {k : Kx} {fl : List Str} {bs : List Nat} {G G' : Hp} {m m' : List Addr} {S S' : Sto} {H H' : Hp}
theorem RKs.gen {κ : Type} (hG : Same G G') (hm : ∀ (n : Nat) (x : Addr), m[n]? = some x → m'[n]? = some x) : ∀ {d : List (κ × D)} {v : List (κ × V)}, RKs k G m d v → RKs k G' m' d v
  | [], v, h => h
  | (q, x) :: xs, v, h => by
    obtain ⟨a, r, e, g, z⟩ := h
    exact ⟨a, r, e, g.gen hG hm, RKs.gen hG hm z⟩
theorem RKs.low {κ : Type} {b : Nat} : ∀ {d : List (κ × D)} {v : List (κ × V)}, (d.all fun kv => kv.2.under b) = true → RKs k G m d v → RKs k G (m.take b) d v
  | [], v, _, h => h
  | (q, x) :: xs, v, u, h => by
    simp only [List.all_cons, Bool.and_eq_true] at u
    obtain ⟨a, r, e, g, z⟩ := h
    exact ⟨a, r, e, RV.low u.1 g, RKs.low u.2 z⟩
theorem RC.gen (hG : Same G G') (hm : ∀ (n : Nat) (x : Addr), m[n]? = some x → m'[n]? = some x) {a : Addr} (hH : H' a = H a) : ∀ {c : Cell}, RC k fl G m H a c → RC k fl G' m' H' a c
  | .lst xs, h => by
    obtain ⟨vs, e, r⟩ := h
    exact ⟨vs, by rw [hH]; exact e, r.gen hG hm⟩
  | .dK kvs, h => by
    obtain ⟨vs, e, r⟩ := h
    exact ⟨vs, by rw [hH]; exact e, RKs.gen hG hm r⟩
  | .dT kvs, h => by
    obtain ⟨vs, e, r⟩ := h
    exact ⟨vs, by rw [hH]; exact e, RKs.gen hG hm r⟩
  | .ins C fs, h => by
    obtain ⟨ca, dx, ws, e0, e, n, u, ln, r⟩ := h
    refine ⟨ca, dx, ws, e0, by rw [hH]; exact e, n, u, ln, fun i x hx => ?_⟩
    have q := r i x hx
    cases hf : getF fs i with
    | none => rw [hf] at q; exact q
    | some d =>
      rw [hf] at q
      obtain ⟨v, e1, e2⟩ := q
      exact ⟨v, e1, e2.gen hG hm⟩
theorem getF_mem {fs : List (Option D)} {i : Nat} {d : D} (h : getF fs i = some d) : some d ∈ fs := by
  unfold getF at h
  cases e : fs[i]? with
  | none => rw [e] at h; cases h
  | some o =>
    rw [e] at h
    have : o = some d := h
    subst this
    exact List.mem_of_getElem? e
theorem RC.low {b : Nat} {a : Addr} : ∀ {c : Cell}, c.under b = true → RC k fl G m H a c → RC k fl G (m.take b) H a c
  | .lst xs, u, h => by
    obtain ⟨vs, e, r⟩ := h
    exact ⟨vs, e, RVs.low u r⟩
  | .dK kvs, u, h => by
    obtain ⟨vs, e, r⟩ := h
    exact ⟨vs, e, RKs.low u r⟩
  | .dT kvs, u, h => by
    obtain ⟨vs, e, r⟩ := h
    exact ⟨vs, e, RKs.low u r⟩
  | .ins C fs, u, h => by
    obtain ⟨ca, dx, ws, e0, e, n, u', ln, r⟩ := h
    refine ⟨ca, dx, ws, e0, e, n, u', ln, fun i x hx => ?_⟩
    have q := r i x hx
    cases hf : getF fs i with
    | none => rw [hf] at q; exact q
    | some d =>
      rw [hf] at q
      obtain ⟨v, e1, e2⟩ := q
      refine ⟨v, e1, RV.low ?_ e2⟩
      have := List.all_eq_true.mp u _ (getF_mem hf)
      exact this
theorem RE.ext (e : Ext G m H G' m' H') {ρ : En} {σ : L2.St} (h : RE k G m ρ σ) : RE k G' m' ρ σ := ⟨h.1, fun i d hd => by
  obtain ⟨v, e1, e2⟩ := h.2 i d hd
  exact ⟨v, e1, e2.ext e⟩⟩
theorem RE.lat (e : Lat G m G' m') {ρ : En} {σ : L2.St} (h : RE k G m ρ σ) : RE k G' m' ρ σ := ⟨h.1, fun i d hd => by
  obtain ⟨v, e1, e2⟩ := h.2 i d hd
  exact ⟨v, e1, e2.lat e⟩⟩
theorem RE.set {ρ : En} {σ : L2.St} (h : RE k G m ρ σ) {i : Nat} {d : D} {v : V} (r : RV k G m d v) : RE k G m (ρ.set i (some d)) (σ.set i (some v)) := by
  refine ⟨by simp [h.1], fun j e he => ?_⟩
  by_cases hj : i = j
  · subst hj
    by_cases hl : i < ρ.length
    · rw [List.getElem?_set_self hl] at he
      cases he
      exact ⟨v, List.getElem?_set_self (h.1 ▸ hl), r⟩
    · rw [List.getElem?_eq_none (by simpa using hl)] at he
      cases he
  · rw [List.getElem?_set_ne hj] at he ⊢
    exact h.2 j e he
theorem RE.wipe {ρ : En} {σ : L2.St} (h : RE k G m ρ σ) : ∀ is : List Nat, RE k G m (wipeE ρ is) (L2.wipe σ is)
  | [] => h
  | i :: is => by
    have q := RE.wipe h is
    show RE k G m ((wipeE ρ is).set i none) ((L2.wipe σ is).set i none)
    refine ⟨by simp [q.1], fun j e he => ?_⟩
    by_cases hj : i = j
    · subst hj
      by_cases hl : i < (wipeE ρ is).length
      · rw [List.getElem?_set_self hl] at he
        cases he
      · rw [List.getElem?_eq_none (by simpa using hl)] at he
        cases he
    · rw [List.getElem?_set_ne hj] at he ⊢
      exact q.2 j e he
theorem Sim.ne (s : Sim k fl bs G m S H) {n : Nat} {c : Cell} (e : S[n]? = some c) : ∃ a, m[n]? = some a ∧ RC k fl G m H a c ∧ G a = none ∧ H a ≠ none := by
  have hn : n < m.length := by rw [s.len]; exact (List.getElem?_eq_some_iff.mp e).1
  have ha : m[n]? = some m[n] := List.getElem?_eq_getElem hn
  have r := s.cel n c _ e ha
  refine ⟨m[n], ha, r, s.out _ (List.getElem_mem hn), ?_⟩
  cases c with
  | lst xs => obtain ⟨vs, e, _⟩ := r; rw [e]; simp
  | dK xs => obtain ⟨vs, e, _⟩ := r; rw [e]; simp
  | dT xs => obtain ⟨vs, e, _⟩ := r; rw [e]; simp
  | ins C fs => obtain ⟨_, _, _, _, e, _⟩ := r; rw [e]; simp
theorem Sim.no_m (s : Sim k fl bs G m S H) {p : Addr} (hp : H p = none) : p ∉ m := fun hm => by
  obtain ⟨n, hn, e⟩ := List.getElem_of_mem hm
  have hS : n < S.length := s.len ▸ hn
  obtain ⟨a, h1, _, _, h2⟩ := s.ne (c := S[n]) (List.getElem?_eq_getElem hS)
  rw [List.getElem?_eq_getElem hn] at h1
  cases h1
  rw [e] at h2
  exact h2 hp
/-- a new object that nobody writes -/
theorem Sim.freeze (s : Sim k fl bs G m S H) {p : Addr} {o : HO} (hm : p ∉ m) (hp : H p = some o) (hg : G p = none) : Sim k fl bs (upd G p o) m S H ∧ Same G (upd G p o) ∧
    ∀ {G0 H0 : Hp} {m0 : List Addr}, H0 p = none → Ext G0 m0 H0 G m H → Ext G0 m0 H0 (upd G p o) m H := by
  have e : Same G (upd G p o) := fun b u h => by rw [upd_ne (ne_of_none h hg)]; exact h
  refine ⟨⟨fun b u h => ?_, s.len, s.nd, fun a ha => ?_, fun n c a h1 h2 => (s.cel n c a h1 h2).gen e (fun _ _ h => h) rfl, s.lo⟩, e, fun {G0 H0 m0} h0 x => ⟨x.sg.trans e, x.pm, fun a u h1 h2 h3 => ?_, x.dom⟩⟩
  · by_cases hb : b = p
    · subst hb; rw [upd_same] at h; cases h; exact hp
    · rw [upd_ne hb] at h; exact s.sub b u h
  · rw [upd_ne (show a ≠ p from fun z => hm (by rw [← z]; exact ha))]; exact s.out a ha
  · obtain ⟨q1, q2, q3⟩ := x.fr a u h1 h2 h3
    exact ⟨q1, by rw [upd_ne (ne_of_none h3 h0)]; exact q2, q3⟩
theorem Sim.gnone (s : Sim k fl bs G m S H) {p : Addr} (hp : H p = none) : G p = none := by
  cases h : G p with
  | none => rfl
  | some o => rw [s.sub p o h] at hp; cases hp
/-- the heap gets a new object, the rest stands -/
theorem Sim.laid (s : Sim k fl bs G m S H) {p : Addr} {o : HO} (hp : H p = none) : Sim k fl bs G m S (upd H p o) ∧ Ext G m H G m (upd H p o) := by
  refine ⟨⟨fun b u h => ?_, s.len, s.nd, s.out, fun n c a h1 h2 => (s.cel n c a h1 h2).gen (Same.refl G) (fun _ _ h => h) ?_, s.lo⟩, Same.refl G, ⟨[], by simp⟩, fun a u h1 h2 h3 => ⟨?_, h1, h2⟩, fun a h => ?_⟩
  · have := s.sub b u h
    rw [upd_ne (ne_of_none this hp)]; exact this
  · refine upd_ne fun z => ?_
    subst z
    exact s.no_m hp (List.mem_of_getElem? h2)
  · rw [upd_ne (ne_of_none h3 hp)]; exact h3
  · by_cases ha : a = p
    · subst ha; exact hp
    · rw [upd_ne ha] at h; exact h
theorem Sim.lay (s : Sim k fl bs G m S H) {p : Addr} {o : HO} (hp : H p = none) : Sim k fl bs (upd G p o) m S (upd H p o) ∧ Ext G m H (upd G p o) m (upd H p o) := by
  obtain ⟨s1, x1⟩ := s.laid (o := o) hp
  obtain ⟨s2, _, x2⟩ := s1.freeze (s.no_m hp) upd_same (s.gnone hp)
  exact ⟨s2, x2 hp x1⟩
/-- a fresh thing becomes a place -/
theorem Sim.place (s : Sim k fl bs G m S H) {p : Addr} {c : Cell} (hm : p ∉ m) (hg : G p = none) (rc : RC k fl G m H p c) : Sim k fl bs G (m ++ [p]) (S ++ [c]) H ∧
    ∀ {G0 H0 : Hp} {m0 : List Addr}, H0 p = none → Ext G0 m0 H0 G m H → Ext G0 m0 H0 G (m ++ [p]) H := by
  have at' : ∀ (n : Nat) (x : Addr), m[n]? = some x → (m ++ [p])[n]? = some x := fun n x h => by
    rw [List.getElem?_append_left (List.getElem?_eq_some_iff.mp h).1]; exact h
  refine ⟨⟨s.sub, by simp [s.len], ?_, fun a ha => ?_, fun n c' a h1 h2 => ?_, fun b hb => ?_⟩, fun {G0 H0 m0} h0 x => ⟨x.sg, ?_, fun a u h1 h2 h3 => ?_, x.dom⟩⟩
  · rw [List.nodup_append]
    exact ⟨s.nd, by simp, fun a ha b hb => by
      rw [List.mem_singleton] at hb; subst hb
      intro z; subst z; exact hm ha⟩
  · rcases List.mem_append.mp ha with h | h
    · exact s.out a h
    · rw [List.mem_singleton] at h; subst h; exact hg
  · by_cases hn : n < S.length
    · rw [List.getElem?_append_left hn] at h1
      rw [List.getElem?_append_left (s.len ▸ hn)] at h2
      exact (s.cel n c' a h1 h2).gen (Same.refl G) at' rfl
    · have hn' : n = S.length := by
        have h3 := (List.getElem?_eq_some_iff.mp h1).1
        simp at h3
        omega
      subst hn'
      rw [List.getElem?_append_right (Nat.le_refl _)] at h1
      rw [List.getElem?_append_right (s.len ▸ Nat.le_refl _)] at h2
      simp [s.len] at h1 h2
      subst h1 h2
      exact rc.gen (Same.refl G) at' rfl
  · obtain ⟨h1, h2⟩ := s.lo b hb
    refine ⟨by simp; omega, fun n c' hn h3 => h2 n c' hn ?_⟩
    rw [List.getElem?_append_left (by omega)] at h3
    exact h3
  · obtain ⟨r, e⟩ := x.pm
    exact ⟨r ++ [p], by rw [e]; simp⟩
  · obtain ⟨q1, q2, q3⟩ := x.fr a u h1 h2 h3
    refine ⟨q1, q2, fun z => ?_⟩
    rcases List.mem_append.mp z with z | z
    · exact q3 z
    · rw [List.mem_singleton] at z; subst z; rw [h0] at h3; cases h3
/-- a place is written -/
theorem Sim.write (s : Sim k fl bs G m S H) {n : Nat} {a : Addr} {o : HO} {c c' : Cell} (ha : m[n]? = some a) (hc : S[n]? = some c) (rc : RC k fl G m (upd H a o) a c') (hu : ∀ b ∈ bs, n < b → c'.under b = true) :
    Sim k fl bs G m (S.set n c') (upd H a o) ∧ Ext G m H G m (upd H a o) := by
  have hn : n < S.length := (List.getElem?_eq_some_iff.mp hc).1
  refine ⟨⟨fun b u h => ?_, by simp [s.len], s.nd, s.out, fun j d x h1 h2 => ?_, fun b hb => ?_⟩, Same.refl G, ⟨[], by simp⟩, fun b u h1 h2 h3 => ⟨?_, h1, h2⟩, fun b h => ?_⟩
  · have hg := s.out a (List.mem_of_getElem? ha)
    rw [upd_ne (fun z => by subst z; rw [h] at hg; cases hg)]
    exact s.sub b u h
  · by_cases hj : n = j
    · subst hj
      rw [List.getElem?_set_self hn] at h1
      rw [ha] at h2
      cases h1; cases h2
      exact rc
    · rw [List.getElem?_set_ne hj] at h1
      refine (s.cel j d x h1 h2).gen (Same.refl G) (fun _ _ h => h) (upd_ne fun z => hj ?_)
      subst z
      obtain ⟨p, e1⟩ := List.getElem?_eq_some_iff.mp ha
      obtain ⟨q, e2⟩ := List.getElem?_eq_some_iff.mp h2
      exact (List.getElem_inj s.nd).mp (e1.trans e2.symm)
  · obtain ⟨h1, h2⟩ := s.lo b hb
    refine ⟨by simpa using h1, fun j d hj h3 => ?_⟩
    by_cases hj' : n = j
    · subst hj'
      rw [List.getElem?_set_self hn] at h3
      cases h3
      exact hu b hb hj
    · rw [List.getElem?_set_ne hj'] at h3
      exact h2 j d hj h3
  · rw [upd_ne (fun z => h2 (by rw [z]; exact List.mem_of_getElem? ha))]; exact h3
  · by_cases hb : b = a
    · subst hb; rw [upd_same] at h; cases h
    · rw [upd_ne hb] at h; exact h
/-- fresh of late is fresh -/
theorem RL.back {H0 H1 : Hp} {G1 : Hp} {m1 : List Addr} {m0 : List Addr} {G0 : Hp} (e : Ext G0 m0 H0 G1 m1 H1) : ∀ {l : Vl} {v : V}, RL k H1 G m H l v → RL k H0 G m H l v
  | .d x, v, h => h
  | .fl xs, v, ⟨a, vs, e1, e0, r⟩ => ⟨a, vs, e1, e.dom a e0, r⟩
  | .fK xs, v, ⟨a, vs, e1, e0, r⟩ => ⟨a, vs, e1, e.dom a e0, r⟩
  | .fT xs, v, ⟨a, vs, e1, e0, r⟩ => ⟨a, vs, e1, e.dom a e0, r⟩
end
end EV
end
section
set_option maxRecDepth 100000
set_option autoImplicit false
/-! EV: the meaning of expressions is what the layer's readings ask, part one. -/
namespace EV
open PySem L2

section
variable (k : Kx) (fl : List Str) (bs : List Nat)
/-- what is wanted behind an expression -/
abbrev Wn (G : Hp) (m : List Addr) (H : Hp) (S' : Sto) (R : Hp → List Addr → Hp → V → Prop) (Q : VK) : Prop :=
  ∀ (G' : Hp) (m' : List Addr) (v : V) (H' : Hp), Ext G m H G' m' H' → Sim k fl bs G' m' S' H' → R G' m' H' v → Q v H'
def LE (te : TE) (f : En → Sto → Rv) : Prop := ∀ (G : Hp) (m : List Addr) (ρ : En) (S : Sto) (σ : L2.St) (H : Hp) (r : Vl) (S' : Sto) (Q : VK),
  Sim k fl bs G m S H → RE k G m ρ σ → f ρ S = some (r, S') → Wn k fl bs G m H S' (fun G' m' H' v => RL k H G' m' H' r v) Q → te σ H Q
def LD (te : TE) (f : En → Sto → Rd) : Prop := ∀ (G : Hp) (m : List Addr) (ρ : En) (S : Sto) (σ : L2.St) (H : Hp) (r : D) (S' : Sto) (Q : VK),
  Sim k fl bs G m S H → RE k G m ρ σ → f ρ S = some (r, S') → Wn k fl bs G m H S' (fun G' m' _ v => RV k G' m' r v) Q → te σ H Q
def LT (te : TT) (f : En → Sto → Option (Bool × Sto)) : Prop := ∀ (G : Hp) (m : List Addr) (ρ : En) (S : Sto) (σ : L2.St) (H : Hp) (r : Bool) (S' : Sto) (Q : Bool → Hp → Prop),
  Sim k fl bs G m S H → RE k G m ρ σ → f ρ S = some (r, S') → (∀ (G' : Hp) (m' : List Addr) (H' : Hp), Ext G m H G' m' H' → Sim k fl bs G' m' S' H' → Q r H') → te σ H Q
def LA (te : TA) (f : En → Sto → Option (List D × Sto)) : Prop := ∀ (G : Hp) (m : List Addr) (ρ : En) (S : Sto) (σ : L2.St) (H : Hp) (r : List D) (S' : Sto) (Q : List V → Hp → Prop),
  Sim k fl bs G m S H → RE k G m ρ σ → f ρ S = some (r, S') → (∀ (G' : Hp) (m' : List Addr) (vs : List V) (H' : Hp), Ext G m H G' m' H' → Sim k fl bs G' m' S' H' → RVs k G' m' r vs → Q vs H') → te σ H Q
def SE (X : Cx) (e : Expr) (f : En → Sto → Rv) : Prop := ∃ te, PE X e te ∧ LE k fl bs te f
def SD (X : Cx) (e : Expr) (f : En → Sto → Rd) : Prop := ∃ te, PE X e te ∧ LD k fl bs te f
def ST (X : Cx) (e : Expr) (f : En → Sto → Option (Bool × Sto)) : Prop := ∃ te, PT X e te ∧ LT k fl bs te f
def SA (X : Cx) (es : List Expr) (f : En → Sto → Option (List D × Sto)) : Prop := ∃ te, PA X es te ∧ LA k fl bs te f
end

section
variable {k : Kx} {fl : List Str} {bs : List Nat} {X : Cx} {G G' : Hp} {m m' : List Addr} {S S' : Sto} {H H' : Hp}

/-- a fresh thing that is read only from now on -/
theorem frz_ok {G0 H0 : Hp} {m0 : List Addr} (x0 : Ext G0 m0 H0 G m H) (s : Sim k fl bs G m S H) {r : Vl} {v : V} {d : D} (h : RL k H0 G m H r v) (e : r.frz = some d) : ∃ G', Ext G0 m0 H0 G' m H ∧ Sim k fl bs G' m S H ∧ RV k G' m d v := by
  cases r with
  | d x =>
    simp only [Vl.frz, Option.some.injEq] at e
    subst e
    exact ⟨G, x0, s, h⟩
  | fl xs =>
    simp only [Vl.frz, Option.some.injEq] at e
    subst e
    obtain ⟨a, vs, rfl, h0, h1, h2, h3, r⟩ := h
    obtain ⟨s', x, y⟩ := s.freeze h3 h1 h2
    exact ⟨_, y h0 x0, s', by simp only [RV]; exact ⟨a, vs, rfl, upd_same, r.gen x fun _ _ h => h⟩⟩
  | fK xs => simp [Vl.frz] at e
  | fT xs => simp [Vl.frz] at e
theorem dOf_some {r : Rv} {d : D} {S' : Sto} (h : dOf r = some (d, S')) : ∃ v, r = some (v, S') ∧ v.frz = some d := by
  unfold dOf at h
  cases r with
  | none => simp at h
  | some q =>
    simp only [Option.bind_some, Option.map_eq_some_iff, Prod.mk.injEq] at h
    obtain ⟨a, h1, rfl, rfl⟩ := h
    exact ⟨q.1, rfl, h1⟩
theorem SE.d {e : Expr} {f : En → Sto → Rv} (h : SE k fl bs X e f) : SD k fl bs X e (fun ρ S => dOf (f ρ S)) := by
  obtain ⟨te, p, l⟩ := h
  refine ⟨te, p, fun G m ρ S σ H r S' Q s re e hQ => ?_⟩
  obtain ⟨v, e1, e2⟩ := dOf_some e
  refine l G m ρ S σ H v S' Q s re e1 fun G1 m1 w H1 x1 s1 r1 => ?_
  obtain ⟨G2, x2, s2, r2⟩ := frz_ok x1 s1 r1 e2
  exact hQ G2 m1 w H1 x2 s2 r2
theorem SD.e {e : Expr} {f : En → Sto → Rd} (h : SD k fl bs X e f) : SE k fl bs X e (fun ρ S => (f ρ S).map fun q => (.d q.1, q.2)) := by
  obtain ⟨te, p, l⟩ := h
  refine ⟨te, p, fun G m ρ S σ H r S' Q s re e hQ => ?_⟩
  simp only [Option.map_eq_some_iff, Prod.mk.injEq] at e
  obtain ⟨⟨d, S1⟩, e1, rfl, rfl⟩ := e
  exact l G m ρ S σ H d S1 Q s re e1 fun G1 m1 w H1 x1 s1 r1 => hQ G1 m1 w H1 x1 s1 r1
theorem SE.cg {e : Expr} {f g : En → Sto → Rv} (h : SE k fl bs X e f) (q : ∀ ρ S, f ρ S = g ρ S) : SE k fl bs X e g := by
  have : f = g := funext fun ρ => funext fun S => q ρ S
  exact this ▸ h

/-! names, constants -/
theorem se_var {i : Nat} {x : Str} {pos : Pos} (hN : X.N[i]? = some x) (hv : Vis X.env.scope x) (hd : (x == ("__debug__" : Str)) = false) (hcd : (x == ("__classdict__" : Str)) = false) :
    SE k fl bs X (.Name x pos) (fun ρ S => (ρ[i]?).join.map fun d => (.d d, S)) := by
  refine ⟨_, pe_var hN hv hd hcd, fun G m ρ S σ H r S' Q s re e hQ => ?_⟩
  simp only [Option.map_eq_some_iff, Prod.mk.injEq] at e
  obtain ⟨d, e1, rfl, rfl⟩ := e
  have e2 : ρ[i]? = some (some d) := by
    cases h : ρ[i]? with
    | none => rw [h] at e1; cases e1
    | some o => rw [h] at e1; rw [show o = some d from e1]
  obtain ⟨v, e3, r3⟩ := re.2 i d e2
  exact ⟨v, e3, hQ G m v H (Ext.refl _ _ _) s r3⟩
theorem se_cst {e : Expr} {d : D} {v : V} (p : PE X e (tC v)) (r : ∀ G m, RV k G m d v) : SE k fl bs X e (fun _ S => some (.d d, S)) := by
  refine ⟨_, p, fun G m ρ S σ H r' S' Q s re e hQ => ?_⟩
  simp only [Option.some.injEq, Prod.mk.injEq] at e
  obtain ⟨rfl, rfl⟩ := e
  exact hQ G m v H (Ext.refl _ _ _) s (r G m)

/-! two in a row -/
theorem ld2 {ta tb : TE} {fa fb : En → Sto → Rd} (ha : LD k fl bs ta fa) (hb : LD k fl bs tb fb) {r : R2} {g : D → Sto → D → Rv}
    (hr : ∀ (G : Hp) (m : List Addr) (S : Sto) (H : Hp) (x y : D) (v w : V) (z : Vl) (S' : Sto) (Q : VK), Sim k fl bs G m S H → RV k G m x v → RV k G m y w → g x S y = some (z, S') → Wn k fl bs G m H S' (fun G' m' H' u => RL k H G' m' H' z u) Q → r v w H Q) :
    LE k fl bs (tOp r ta tb) (fun ρ S => (fa ρ S).bind fun p => (fb ρ p.2).bind fun q => g p.1 q.2 q.1) := by
  intro G m ρ S σ H z S' Q s re e hQ
  simp only [Option.bind_eq_some_iff] at e
  obtain ⟨⟨x, S1⟩, e1, ⟨y, S2⟩, e2, e3⟩ := e
  refine ha G m ρ S σ H x S1 _ s re e1 fun G1 m1 v H1 x1 s1 r1 => ?_
  refine hb G1 m1 ρ S1 σ H1 y S2 _ s1 (re.ext x1) e2 fun G2 m2 w H2 x2 s2 r2 => ?_
  exact hr G2 m2 S2 H2 x y v w z S' Q s2 (r1.ext x2) r2 e3 fun G3 m3 u H3 x3 s3 r3 => hQ G3 m3 u H3 (x1.trans (x2.trans x3)) s3 (r3.back (x1.trans x2))
/-- the places' lists, as the heap has them -/
theorem lstOf_ok (s : Sim k fl bs G m S H) {x : D} {v : V} {xs : List D} (r : RV k G m x v) (e : lstOf S x = some xs) : ∃ a vs, v = .ref a ∧ SqL k.K H a vs ∧ RVs k G m xs vs := by
  cases x with
  | lst ys =>
    simp only [lstOf, Option.some.injEq] at e
    subst e
    simp only [RV] at r
    obtain ⟨a, vs, rfl, h, r⟩ := r
    exact ⟨a, vs, rfl, SqL.of (s.sub _ _ h), r⟩
  | slst ys =>
    simp only [lstOf, Option.some.injEq] at e
    subst e
    simp only [RV] at r
    obtain ⟨a, vs, rfl, h, r⟩ := r
    exact ⟨a, vs, rfl, SqL.mono s.sub h, r⟩
  | loc n =>
    simp only [RV] at r
    obtain ⟨a, rfl, h⟩ := r
    simp only [lstOf] at e
    split at e
    · rename_i ys hn
      cases e
      obtain ⟨vs, h1, h2⟩ := s.cel n _ a hn h
      exact ⟨a, vs, rfl, SqL.of h1, h2⟩
    · cases e
  | _ => simp [lstOf] at e
theorem lsmOf_ok (s : Sim k fl bs G m S H) {x : D} {v : V} {xs : List D} (r : RV k G m x v) (e : lsmOf S x = some xs) : ∃ a vs, v = .ref a ∧ H a = some (.lst vs) ∧ RVs k G m xs vs := by
  cases x with
  | lst ys =>
    simp only [lsmOf, Option.some.injEq] at e
    subst e
    simp only [RV] at r
    obtain ⟨a, vs, rfl, h, r⟩ := r
    exact ⟨a, vs, rfl, s.sub _ _ h, r⟩
  | loc n =>
    simp only [RV] at r
    obtain ⟨a, rfl, h⟩ := r
    simp only [lsmOf] at e
    split at e
    · rename_i ys hn
      cases e
      obtain ⟨vs, h1, h2⟩ := s.cel n _ a hn h
      exact ⟨a, vs, rfl, h1, h2⟩
    · cases e
  | _ => simp [lsmOf] at e
theorem tupOf_ok (s : Sim k fl bs G m S H) {x : D} {v : V} {xs : List D} (r : RV k G m x v) (e : tupOf x = some xs) : ∃ a vs, v = .ref a ∧ SqT k.K H a vs ∧ RVs k G m xs vs := by
  cases x with
  | tup ys =>
    simp only [tupOf, Option.some.injEq] at e
    subst e
    simp only [RV] at r
    obtain ⟨a, vs, rfl, h, r⟩ := r
    exact ⟨a, vs, rfl, SqT.of (s.sub _ _ h), r⟩
  | ctup ys =>
    simp only [tupOf, Option.some.injEq] at e
    subst e
    simp only [RV] at r
    obtain ⟨a, vs, rfl, h, r⟩ := r
    exact ⟨a, vs, rfl, SqT.mono (fun _ _ z => by cases z) h, r⟩
  | _ => simp [tupOf] at e
theorem seqOf_ok (s : Sim k fl bs G m S H) {x : D} {v : V} {xs : List D} (r : RV k G m x v) (e : seqOf S x = some xs) : ∃ a vs, v = .ref a ∧ (SqL k.K H a vs ∨ SqT k.K H a vs) ∧ RVs k G m xs vs := by
  unfold seqOf at e
  split at e
  · rename_i h
    cases e
    obtain ⟨a, vs, e1, e2, e3⟩ := tupOf_ok s r h
    exact ⟨a, vs, e1, .inr e2, e3⟩
  · obtain ⟨a, vs, e1, e2, e3⟩ := lstOf_ok s r e
    exact ⟨a, vs, e1, .inl e2, e3⟩
/-- a new frozen object is handed out -/
theorem new_tup (s : Sim k fl bs G m S H) {xs : List D} {vs : List V} {Q : VK} (r : RVs k G m xs vs) (hQ : Wn k fl bs G m H S (fun G' m' H' u => RL k H G' m' H' (.d (.tup xs)) u) Q) : ∀ p, H p = none → Q (.ref p) (upd H p (.tup vs)) := by
  intro p hp
  obtain ⟨s1, x1⟩ := s.lay (o := .tup vs) hp
  exact hQ _ _ _ _ x1 s1 (by simp only [RL, RV]; exact ⟨p, vs, rfl, upd_same, r.ext x1⟩)
theorem new_lst (s : Sim k fl bs G m S H) {xs : List D} {vs : List V} {Q : VK} (r : RVs k G m xs vs) (hQ : Wn k fl bs G m H S (fun G' m' H' u => RL k H G' m' H' (.fl xs) u) Q) : ∀ p, H p = none → Q (.ref p) (upd H p (.lst vs)) := by
  intro p hp
  obtain ⟨s1, x1⟩ := s.laid (o := .lst vs) hp
  exact hQ G m _ _ x1 s1 ⟨p, vs, rfl, hp, upd_same, s.gnone hp, s.no_m hp, r⟩
theorem done_d (s : Sim k fl bs G m S H) {d : D} {v : V} {Q : VK} (hQ : Wn k fl bs G m H S (fun G' m' H' u => RL k H G' m' H' (.d d) u) Q) (r : RV k G m d v) : Q v H := hQ G m v H (Ext.refl _ _ _) s r

/-! operators -/
abbrev Gd (k : Kx) (fl : List Str) (bs : List Nat) (r : R2) (f : Sto → D → D → Option Vl) : Prop :=
  ∀ (G : Hp) (m : List Addr) (S : Sto) (H : Hp) (x y : D) (v w : V) (z : Vl) (Q : VK), Sim k fl bs G m S H → RV k G m x v → RV k G m y w → f S x y = some z → Wn k fl bs G m H S (fun G' m' H' u => RL k H G' m' H' z u) Q → r v w H Q
theorem RV.int_inv {i : Int} {v : V} (r : RV k G m (.int i) v) : v = .int i := by simpa only [RV] using r
theorem RV.str_inv {i : Str} {v : V} (r : RV k G m (.str i) v) : v = .str i := by simpa only [RV] using r
theorem RV.bl_inv {i : Bool} {v : V} (r : RV k G m (.bl i) v) : v = .bl i := by simpa only [RV] using r
theorem RV.ofI {i : Int} : RV k G m (.int i) (.int i) := by simp only [RV]
theorem RV.ofB {i : Bool} : RV k G m (.bl i) (.bl i) := by simp only [RV]
theorem RV.ofS {i : Str} : RV k G m (.str i) (.str i) := by simp only [RV]

theorem gd_int {o : Operator} {f : Int → Int → Int} {C : Int → Int → Prop} {r : R2} (hb : ∀ S x y z, binop o S x y = some z → (∃ i j, x = .int i ∧ y = .int j ∧ C i j ∧ z = .d (.int (f i j))))
    (hr : ∀ v w H Q, rI C (fun i j => .int (f i j)) v w H Q → r v w H Q) : Gd k fl bs r (fun S x y => binop o S x y) := by
  intro G m S H x y v w z Q s rx ry e hQ
  obtain ⟨i, j, rfl, rfl, hc, rfl⟩ := hb S x y z e
  rw [rx.int_inv, ry.int_inv]
  exact hr _ _ _ _ ⟨i, j, rfl, rfl, hc, done_d s hQ RV.ofI⟩
theorem bin_ok (op : Operator) (hK : k.K = X.K) : (∃ r, OpR X (binaryOp op) r ∧ Gd k fl bs r (fun S x y => binop op S x y)) ∨ ∀ S x y, binop op S x y = none := by
  cases op with
  | Sub =>
    refine .inl ⟨_, op_sub, ?_⟩
    intro G m S H x y v w z Q s rx ry e hQ
    cases x <;> cases y <;> simp only [binop, Option.some.injEq, reduceCtorEq] at e
    subst e
    rw [rx.int_inv, ry.int_inv]
    exact ⟨_, _, rfl, rfl, done_d s hQ RV.ofI⟩
  | FloorDiv =>
    refine .inl ⟨_, op_fdiv, ?_⟩
    intro G m S H x y v w z Q s rx ry e hQ
    cases x <;> cases y <;> simp only [binop, Option.some.injEq, reduceCtorEq] at e
    split at e
    · rename_i hc
      cases e
      rw [rx.int_inv, ry.int_inv]
      exact ⟨_, _, rfl, rfl, hc, done_d s hQ RV.ofI⟩
    · cases e
  | Mod =>
    refine .inl ⟨_, op_mod, ?_⟩
    intro G m S H x y v w z Q s rx ry e hQ
    cases x <;> cases y <;> simp only [binop, Option.some.injEq, reduceCtorEq] at e
    split at e
    · rename_i hc
      cases e
      rw [rx.int_inv, ry.int_inv]
      exact ⟨_, _, rfl, rfl, hc, done_d s hQ RV.ofI⟩
    · cases e
  | Pow =>
    refine .inl ⟨_, op_pow, ?_⟩
    intro G m S H x y v w z Q s rx ry e hQ
    cases x <;> cases y <;> simp only [binop, Option.some.injEq, reduceCtorEq] at e
    split at e
    · rename_i hc
      cases e
      rw [rx.int_inv, ry.int_inv]
      exact ⟨_, _, rfl, rfl, hc, done_d s hQ RV.ofI⟩
    · cases e
  | LShift =>
    refine .inl ⟨_, op_shl, ?_⟩
    intro G m S H x y v w z Q s rx ry e hQ
    cases x <;> cases y <;> simp only [binop, Option.some.injEq, reduceCtorEq] at e
    split at e
    · rename_i hc
      cases e
      rw [rx.int_inv, ry.int_inv]
      exact ⟨_, _, rfl, rfl, hc, done_d s hQ RV.ofI⟩
    · cases e
  | RShift =>
    refine .inl ⟨_, op_shr, ?_⟩
    intro G m S H x y v w z Q s rx ry e hQ
    cases x <;> cases y <;> simp only [binop, Option.some.injEq, reduceCtorEq] at e
    split at e
    · rename_i hc
      cases e
      rw [rx.int_inv, ry.int_inv]
      exact ⟨_, _, rfl, rfl, hc, done_d s hQ RV.ofI⟩
    · cases e
  | BitAnd =>
    refine .inl ⟨_, op_and, ?_⟩
    intro G m S H x y v w z Q s rx ry e hQ
    cases x <;> cases y <;> simp only [binop, Option.some.injEq, reduceCtorEq] at e
    subst e
    rw [rx.int_inv, ry.int_inv]
    exact ⟨_, _, rfl, rfl, done_d s hQ RV.ofI⟩
  | Add =>
    refine .inl ⟨_, op_add.or (op_add_str.or (op_catA.or op_cat)), ?_⟩
    intro G m S H x y v w z Q s rx ry e hQ
    have big : (match tupOf x, tupOf y with
      | some xs, some ys => if xs.length + ys.length ≤ sizeLine then some (Vl.d (if xs.isEmpty = true then y else if ys.isEmpty = true then x else .tup (xs ++ ys))) else none
      | _, _ => match lsmOf S x, lsmOf S y with
        | some xs, some ys => if xs.length + ys.length ≤ sizeLine then some (.fl (xs ++ ys)) else none
        | _, _ => none) = some z → (rCatA X.K v w H Q ∨ rCat v w H Q) := by
      intro e
      split at e
      · rename_i xs ys h1 h2
        split at e
        · rename_i hz
          cases e
          obtain ⟨a, vs, rfl, e1, r1⟩ := tupOf_ok s rx h1
          obtain ⟨a', ws, rfl, e2, r2⟩ := tupOf_ok s ry h2
          rw [hK] at e1 e2
          refine .inl ⟨a, a', vs, ws, rfl, rfl, e1, e2, by rw [← r1.length, ← r2.length]; exact hz, fun q => ?_, fun q q' => ?_, fun q q' => ?_⟩
          · have : xs = [] := by
              have := r1.length
              rw [q] at this
              exact List.length_eq_zero_iff.mp this
            subst this
            exact hQ G m _ H (Ext.refl _ _ _) s ry
          · have h3 : xs.isEmpty = false := by
              cases xs with
              | nil => exact absurd r1.inv0 q
              | cons => rfl
            have h4 : ys = [] := by
              have := r2.length
              rw [q'] at this
              exact List.length_eq_zero_iff.mp this
            subst h4
            rw [h3] at hQ
            exact hQ G m _ H (Ext.refl _ _ _) s rx
          · have h3 : xs.isEmpty = false := by
              cases xs with
              | nil => exact absurd r1.inv0 q
              | cons => rfl
            have h4 : ys.isEmpty = false := by
              cases ys with
              | nil => exact absurd r2.inv0 q'
              | cons => rfl
            rw [h3, h4] at hQ
            exact new_tup s (r1.append r2) hQ
        · cases e
      · split at e
        · rename_i xs ys h1 h2
          split at e
          · rename_i hz
            cases e
            obtain ⟨a, vs, rfl, e1, r1⟩ := lsmOf_ok s rx h1
            obtain ⟨a', ws, rfl, e2, r2⟩ := lsmOf_ok s ry h2
            exact .inr ⟨a, a', vs, ws, rfl, rfl, e1, e2, by rw [← r1.length, ← r2.length]; exact hz, new_lst s (r1.append r2) hQ⟩
          · cases e
        · cases e
    by_cases hi : ∃ i j, x = .int i ∧ y = .int j
    · obtain ⟨i, j, rfl, rfl⟩ := hi
      simp only [binop, Option.some.injEq] at e
      subst e
      rw [rx.int_inv, ry.int_inv]
      exact .inl ⟨_, _, rfl, rfl, done_d s hQ RV.ofI⟩
    · by_cases hs : ∃ i j, x = .str i ∧ y = .str j
      · obtain ⟨i, j, rfl, rfl⟩ := hs
        simp only [binop] at e
        split at e
        · rename_i hz
          cases e
          rw [rx.str_inv, ry.str_inv]
          exact .inr (.inl ⟨_, _, rfl, rfl, hz, done_d s hQ RV.ofS⟩)
        · cases e
      · refine .inr (.inr (big ?_))
        rw [← e]
        cases x <;> cases y <;> first | rfl | exact absurd ⟨_, _, rfl, rfl⟩ hi | exact absurd ⟨_, _, rfl, rfl⟩ hs
  | Mult =>
    refine .inl ⟨_, op_mulW.or (op_repT.or op_rep), ?_⟩
    intro G m S H x y v w z Q s rx ry e hQ
    by_cases hy : ∃ j, y = .int j
    · obtain ⟨j, rfl⟩ := hy
      rw [ry.int_inv]
      by_cases hi : ∃ i, x = .int i
      · obtain ⟨i, rfl⟩ := hi
        simp only [binop] at e
        split at e
        · rename_i hz
          cases e
          rw [rx.int_inv]
          exact .inl ⟨_, _, rfl, rfl, hz, done_d s hQ RV.ofI⟩
        · cases e
      · have e' : (match tupOf x with
          | some xs => if xs ≠ [] ∧ 2 ≤ j ∧ j ≤ 1000 ∧ xs.length ≤ 1000 then some (Vl.d (.tup (List.replicate j.toNat xs).flatten)) else none
          | none => match lsmOf S x with
            | some xs => if -(2 ^ 63) ≤ j ∧ j < 2 ^ 63 ∧ xs.length * j.toNat ≤ sizeLine then some (.fl (List.replicate j.toNat xs).flatten) else none
            | none => none) = some z := by
          rw [← e]
          cases x <;> first | rfl | exact absurd ⟨_, rfl⟩ hi
        split at e'
        · rename_i xs h1
          split at e'
          · rename_i hz
            cases e'
            obtain ⟨a, vs, rfl, e1, r1⟩ := tupOf_ok s rx h1
            rw [hK] at e1
            refine .inr (.inl ⟨a, j, vs, rfl, rfl, e1, fun q => hz.1 ?_, hz.2.1, hz.2.2.1, by rw [← r1.length]; exact hz.2.2.2, new_tup s (r1.rep _) hQ⟩)
            subst q
            exact List.length_eq_zero_iff.mp r1.length
          · cases e'
        · split at e'
          · rename_i xs h1
            split at e'
            · rename_i hz
              cases e'
              obtain ⟨a, vs, rfl, e1, r1⟩ := lsmOf_ok s rx h1
              exact .inr (.inr ⟨a, j, vs, rfl, rfl, e1, hz.1, hz.2.1, by rw [← r1.length]; exact hz.2.2, new_lst s (r1.rep _) hQ⟩)
            · cases e'
          · cases e'
    · exfalso
      cases x <;> cases y <;> first | exact hy ⟨_, rfl⟩ | (simp [binop] at e)
  | _ => exact .inr fun S x y => by simp [binop]
theorem se_bin {a b : Expr} {op : Operator} {pos : Pos} {fa fb : En → Sto → Rd} (hK : k.K = X.K) (ha : SD k fl bs X a fa) (hb : SD k fl bs X b fb) :
    SE k fl bs X (.BinOp a op b pos) (fun ρ S => (fa ρ S).bind fun p => (fb ρ p.2).bind fun q => (binop op q.2 p.1 q.1).map fun v => (v, q.2)) := by
  obtain ⟨ta, pa, la⟩ := ha
  obtain ⟨tb, pb, lb⟩ := hb
  rcases bin_ok (k := k) (fl := fl) (bs := bs) op hK with ⟨r, ho, hr⟩ | hn
  · refine ⟨_, pe_op ho pa pb, ld2 (g := fun x S y => (binop op S x y).map fun v => (v, S)) la lb fun G m S H x y v w z S' Q s rx ry e hQ => ?_⟩
    simp only [Option.map_eq_some_iff, Prod.mk.injEq] at e
    obtain ⟨u, e1, rfl, rfl⟩ := e
    exact hr G m S H x y v w u Q s rx ry e1 hQ
  · have hf : ∀ ρ S, ((fa ρ S).bind fun p => (fb ρ p.2).bind fun q => (binop op q.2 p.1 q.1).map fun v => (v, q.2)) = none := fun ρ S => by
      simp [hn]
    refine ⟨_, pe_op (r := fun _ _ _ _ => False) (fun _ _ _ _ _ _ _ _ _ _ _ _ h => h.elim) pa pb, fun G m ρ S σ H r S' Q s re e hQ => ?_⟩
    have e' := (hf ρ S).symm.trans e
    cases e'
theorem se_neg {a : Expr} {pos : Pos} {fa : En → Sto → Rd} (ha : SD k fl bs X a fa) :
    SE k fl bs X (.UnaryOp .USub a pos) (fun ρ S => (fa ρ S).bind fun r => match r.1 with
    | .int i => some (.d (.int (-i)), r.2)
    | _ => none) := by
  obtain ⟨ta, pa, la⟩ := ha
  refine ⟨_, pe_un un_neg pa, fun G m ρ S σ H r S' Q s re e hQ => ?_⟩
  simp only [Option.bind_eq_some_iff] at e
  obtain ⟨⟨x, S1⟩, e1, e2⟩ := e
  cases x with
  | int i =>
    simp only [Option.some.injEq, Prod.mk.injEq] at e2
    obtain ⟨rfl, rfl⟩ := e2
    refine la G m ρ S σ H _ S1 _ s re e1 fun G1 m1 v H1 x1 s1 r1 => ?_
    exact ⟨i, RV.int_inv r1, hQ G1 m1 _ H1 x1 s1 (RV.ofI (k := k) (G := G1) (m := m1))⟩
  | _ => simp at e2

/-! comparisons -/
mutual
theorem Dp.of {k : Kx} {G H : Hp} {m : List Addr} (hs : Same G H) : ∀ {d : D} {v : V}, d.pure = true → RV k G m d v → Dp k.K H v d.py
  | .non, v, _, h => by simp only [RV] at h; subst h; simp only [D.py]; exact .non
  | .bl b, v, _, h => by simp only [RV] at h; subst h; simp only [D.py]; exact .bl b
  | .int b, v, _, h => by simp only [RV] at h; subst h; simp only [D.py]; exact .int b
  | .str b, v, _, h => by simp only [RV] at h; subst h; simp only [D.py]; exact .str b
  | .ty _, v, p, h => by simp [D.pure] at p
  | .cl _, v, p, h => by simp [D.pure] at p
  | .loc _, v, p, h => by simp [D.pure] at p
  | .tup xs, v, p, h => by
    simp only [RV] at h
    obtain ⟨a, vs, rfl, g, r⟩ := h
    simp only [D.py]
    exact .tup (SqT.of (hs _ _ g)) (DpAll.of hs (by simpa [D.pure] using p) r)
  | .ctup xs, v, p, h => by
    simp only [RV] at h
    obtain ⟨a, vs, rfl, g, r⟩ := h
    simp only [D.py]
    exact .tup (SqT.mono (fun _ _ z => by cases z) g) (DpAll.of hs (by simpa [D.pure] using p) r)
  | .lst xs, v, p, h => by
    simp only [RV] at h
    obtain ⟨a, vs, rfl, g, r⟩ := h
    simp only [D.py]
    exact .lst (SqL.of (hs _ _ g)) (DpAll.of hs (by simpa [D.pure] using p) r)
  | .slst xs, v, p, h => by
    simp only [RV] at h
    obtain ⟨a, vs, rfl, g, r⟩ := h
    simp only [D.py]
    exact .lst (SqL.mono hs g) (DpAll.of hs (by simpa [D.pure] using p) r)
theorem DpAll.of {k : Kx} {G H : Hp} {m : List Addr} (hs : Same G H) : ∀ {d : List D} {v : List V}, D.pures d = true → RVs k G m d v → DpAll k.K H v (D.pys d)
  | [], v, _, h => by rw [h.inv0]; exact .nil
  | x :: xs, v, p, h => by
    obtain ⟨y, r, rfl, g, q⟩ := h.inv1
    simp only [D.pures, Bool.and_eq_true] at p
    simp only [D.pys]
    exact .cons (Dp.of hs p.1 g) (DpAll.of hs p.2 q)
end
theorem pyS_ok (s : Sim k fl bs G m S H) {x : D} {v : V} {d : PyData} (r : RV k G m x v) (e : pyS S x = some d) : Dp k.K H v d := by
  unfold pyS at e
  split at e
  · rename_i n
    simp only [RV] at r
    obtain ⟨a, rfl, h⟩ := r
    split at e
    · rename_i xs hn
      split at e
      · rename_i hp
        cases e
        obtain ⟨vs, h1, h2⟩ := s.cel n _ a hn h
        exact .lst (SqL.of h1) (DpAll.of s.sub hp h2)
      · cases e
    · cases e
  · split at e
    · rename_i hp
      cases e
      exact Dp.of s.sub hp r
    · cases e
theorem keysOf_ok : ∀ {xs : List D} {vs : List V} {ks : List Key}, RVs k G m xs vs → keysOf xs = some ks → vs = ks.map kV
  | [], vs, ks, r, e => by
    rw [r.inv0]
    simp only [keysOf, Option.some.injEq] at e
    subst e
    rfl
  | x :: xs, vs, ks, r, e => by
    obtain ⟨y, q, rfl, g, z⟩ := r.inv1
    simp only [keysOf] at e
    split at e
    · rename_i k1 ks1 h1 h2
      cases e
      rw [keysOf_ok z h2, List.map_cons]
      congr 1
      cases x <;> simp [D.key] at h1
      · subst h1; exact g.int_inv
      · subst h1; exact g.str_inv
    · cases e
theorem key_ok {x : D} {v : V} {q : Key} (r : RV k G m x v) (e : x.key = some q) : v = kV q := by
  cases x <;> simp [D.key] at e
  · subst e; exact r.int_inv
  · subst e; exact r.str_inv
theorem keyT_ok (s : Sim k fl bs G m S H) {x : D} {v : V} {q : List Key} (r : RV k G m x v) (e : x.keyT = some q) : ∃ b, v = .ref b ∧ H b = some (.tup (q.map kV)) := by
  cases x <;> simp only [D.keyT, reduceCtorEq] at e
  simp only [RV] at r
  obtain ⟨a, vs, rfl, g, r⟩ := r
  exact ⟨a, rfl, by rw [s.sub _ _ g, keysOf_ok r e]⟩
def RO (k : Kx) (G : Hp) (m : List Addr) : Option D → Option V → Prop
  | some d, o => ∃ v, o = some v ∧ RV k G m d v
  | none, o => o = none
theorem val_ok {κ : Type} [DecidableEq κ] : ∀ {kvs : List (κ × D)} {ws : List (κ × V)} (q : κ), RKs k G m kvs ws → RO k G m (valG kvs q) (valV ws q)
  | [], ws, q, r => by
    have : ws = [] := r
    subst this
    rfl
  | (p, x) :: kvs, ws, q, r => by
    obtain ⟨v, rr, rfl, g, z⟩ := r
    have ih := val_ok q z
    unfold valG valV at ih ⊢
    by_cases hp : p = q
    · simp only [List.find?_cons, hp, decide_true, Option.map_some]
      exact ⟨v, rfl, g⟩
    · simp only [List.find?_cons, hp, decide_false]
      exact ih
theorem dget_ok (s : Sim k fl bs G m S H) {n : Nat} {c : Cell} {a : Addr} (hc : S[n]? = some c) (ha : m[n]? = some a) {y : D} {w : V} {o : Option D} (ry : RV k G m y w) (e : dget c y = some o) :
    ∃ o', DGet H a w o' ∧ RO k G m o o' := by
  have rc := s.cel n c a hc ha
  cases c with
  | dK kvs =>
    obtain ⟨ws, h1, h2⟩ := rc
    simp only [dget, Option.map_eq_some_iff] at e
    obtain ⟨q, e1, rfl⟩ := e
    rw [key_ok ry e1]
    exact ⟨valV ws q, DGet.k h1, val_ok q h2⟩
  | dT kvs =>
    obtain ⟨ws, h1, h2⟩ := rc
    simp only [dget, Option.map_eq_some_iff] at e
    obtain ⟨q, e1, rfl⟩ := e
    obtain ⟨b, rfl, e2⟩ := keyT_ok s ry e1
    exact ⟨valV ws q, DGet.t h1 e2, val_ok q h2⟩
  | lst xs => simp [dget] at e
  | ins C fs => simp [dget] at e
/-- y in d, d a dict -/
def rInK (neg : Bool) : R2 := fun y x H Q => ∃ a o, x = .ref a ∧ DGet H a y o ∧ Q (.bl (if neg = true then !o.isSome else o.isSome)) H
theorem op_inK (hu : X.A.units + 1 < cLine) : OpR X (compareOp .In) (rInK false) := by
  intro pins s σ H y x v u Q I ry rx h
  obtain ⟨a, o, rfl, g, q⟩ := h
  obtain rfl : u = Value.ref a := rx
  exact d_in hu I g ry fun s' I' => ⟨.bl _, H, I', rfl, q⟩
theorem op_notInK (hu : X.A.units + 1 < cLine) : OpR X (compareOp .NotIn) (rInK true) := by
  intro pins s σ H y x v u Q I ry rx h
  obtain ⟨a, o, rfl, g, q⟩ := h
  obtain rfl : u = Value.ref a := rx
  exact d_notIn hu I g ry fun s' I' => ⟨.bl _, H, I', rfl, q⟩
theorem flat_ok {x : D} {v : V} (f : flatD x = true) (r : RV k G m x v) : flatV v = true ∧ ∀ (y : D) (w : V), flatD y = true → RV k G m y w → eqV w v = PyData.eqv y.py x.py := by
  cases x <;> simp [flatD] at f
  · simp only [RV] at r
    subst r
    refine ⟨rfl, fun y w fy ry => ?_⟩
    cases y <;> simp [flatD] at fy <;> (simp only [RV] at ry; subst ry; simp [eqV, PyData.eqv, D.py])
  · simp only [RV] at r
    subst r
    refine ⟨rfl, fun y w fy ry => ?_⟩
    cases y <;> simp [flatD] at fy <;> (simp only [RV] at ry; subst ry; simp [eqV, PyData.eqv, D.py])
  · simp only [RV] at r
    subst r
    refine ⟨rfl, fun y w fy ry => ?_⟩
    cases y <;> simp [flatD] at fy <;> (simp only [RV] at ry; subst ry; simp [eqV, PyData.eqv, D.py])
  · simp only [RV] at r
    subst r
    refine ⟨rfl, fun y w fy ry => ?_⟩
    cases y <;> simp [flatD] at fy <;> (simp only [RV] at ry; subst ry; simp [eqV, PyData.eqv, D.py])
end
end EV
end
section
set_option maxRecDepth 100000
set_option autoImplicit false
/-! EV: comparisons, subscripts, truth, displays. -/
namespace EV
open PySem L2

section
variable {k : Kx} {fl : List Str} {bs : List Nat} {X : Cx} {G G' : Hp} {m m' : List Addr} {S S' : Sto} {H H' : Hp}

abbrev Gc (k : Kx) (fl : List Str) (bs : List Nat) (r : R2) (f : Sto → D → D → Option Bool) : Prop :=
  ∀ (G : Hp) (m : List Addr) (S : Sto) (H : Hp) (x y : D) (v w : V) (z : Bool) (Q : VK), Sim k fl bs G m S H → RV k G m x v → RV k G m y w → f S x y = some z → Q (.bl z) H → r v w H Q
theorem intsOf_ok : ∀ {xs : List D} {vs : List V} {ns : List Int}, RVs k G m xs vs → intsOf xs = some ns → vs = ns.map V.int
  | [], vs, ns, r, e => by
    rw [r.inv0]
    simp only [intsOf, Option.some.injEq] at e
    subst e
    rfl
  | x :: xs, vs, ns, r, e => by
    obtain ⟨y, q, rfl, g, z⟩ := r.inv1
    cases x <;> simp only [intsOf, Option.map_eq_some_iff, reduceCtorEq] at e
    obtain ⟨ms, e1, rfl⟩ := e
    rw [intsOf_ok z e1, g.int_inv]
    rfl
theorem blsOf_ok : ∀ {xs : List D} {vs : List V} {ns : List Bool}, RVs k G m xs vs → blsOf xs = some ns → vs = ns.map V.bl
  | [], vs, ns, r, e => by
    rw [r.inv0]
    simp only [blsOf, Option.some.injEq] at e
    subst e
    rfl
  | x :: xs, vs, ns, r, e => by
    obtain ⟨y, q, rfl, g, z⟩ := r.inv1
    cases x <;> simp only [blsOf, Option.map_eq_some_iff, reduceCtorEq] at e
    obtain ⟨ms, e1, rfl⟩ := e
    rw [blsOf_ok z e1, g.bl_inv]
    rfl
theorem eqD_ok (s : Sim k fl bs G m S H) {x y : D} {v w : V} {z : Bool} (rx : RV k G m x v) (ry : RV k G m y w) (e : eqD S x y = some z) :
    ∃ a b, Dp k.K H v a ∧ Dp k.K H w b ∧ SeqAt.shaped a = true ∧ SeqAt.shaped b = true ∧ z = PyData.eqv a b := by
  unfold eqD at e
  split at e
  · rename_i a b h1 h2
    split at e
    · rename_i hs
      cases e
      exact ⟨a, b, pyS_ok s rx h1, pyS_ok s ry h2, hs.1, hs.2, rfl⟩
    · cases e
  · cases e
theorem inSeq_ok (s : Sim k fl bs G m S H) {x : D} {v : V} (rx : RV k G m x v) (fx : flatD x = true) : ∀ {ys : List D} {ws : List V}, RVs k G m ys ws → ys.all flatD = true → ws.all flatV = true ∧ inV v ws = ys.any (fun y => PyData.eqv y.py x.py)
  | [], ws, r, _ => by rw [r.inv0]; exact ⟨rfl, rfl⟩
  | y :: ys, ws, r, f => by
    obtain ⟨w, q, rfl, g, z⟩ := r.inv1
    simp only [List.all_cons, Bool.and_eq_true] at f
    obtain ⟨h1, h2⟩ := inSeq_ok s rx fx z f.2
    unfold inV at h2 ⊢
    obtain ⟨f1, f2⟩ := flat_ok fx rx
    obtain ⟨g1, g2⟩ := flat_ok f.1 g
    refine ⟨by simp [g1, h1], ?_⟩
    rw [List.any_cons, List.any_cons, h2, f2 y w f.1 g]
theorem inD_ok (s : Sim k fl bs G m S H) {x y : D} {v w : V} {z : Bool} (rx : RV k G m x v) (ry : RV k G m y w) (e : inD S x y = some z) :
    (∃ a o, w = .ref a ∧ DGet H a v o ∧ z = o.isSome) ∨ ∃ p ws, w = .ref p ∧ (SqL k.K H p ws ∨ SqT k.K H p ws) ∧ flatV v = true ∧ ws.all flatV = true ∧ z = inV v ws := by
  unfold inD at e
  split at e
  · rename_i c hc
    split at hc
    · rename_i n
      split at hc
      · cases hc
      · rename_i c' hn
        simp only [Option.map_eq_some_iff] at e
        obtain ⟨o, e1, rfl⟩ := e
        simp only [RV] at ry
        obtain ⟨a, rfl, ha⟩ := ry
        obtain ⟨o', g, ro⟩ := dget_ok s hc ha rx e1
        refine .inl ⟨a, o', rfl, g, ?_⟩
        cases o with
        | none => rw [show o' = none from ro]; rfl
        | some d => obtain ⟨u, rfl, _⟩ := ro; rfl
    · cases hc
  · split at e
    · rename_i ys hy
      split at e
      · rename_i hf
        cases e
        obtain ⟨a, ws, rfl, e1, r1⟩ := seqOf_ok s ry hy
        obtain ⟨h1, h2⟩ := inSeq_ok s rx hf.1 r1 hf.2
        exact .inr ⟨a, ws, rfl, e1, (flat_ok hf.1 rx).1, h1, h2.symm⟩
      · cases e
    · cases e
theorem isD_ok {x y : D} {v w : V} {z : Bool} (rx : RV k G m x v) (ry : RV k G m y w) (e : isD x y = some z) : w = .non ∧ z = decide (v = .non) := by
  cases y <;> simp only [isD, reduceCtorEq, Option.some.injEq] at e
  subst e
  simp only [RV] at ry
  refine ⟨ry, ?_⟩
  cases x <;> simp only [RV] at rx
  · subst rx; rfl
  · subst rx; rfl
  · subst rx; rfl
  · subst rx; rfl
  · subst rx; rfl
  · obtain ⟨a, rfl, _⟩ := rx; rfl
  · obtain ⟨a, vs, rfl, _⟩ := rx; rfl
  · obtain ⟨a, vs, rfl, _⟩ := rx; rfl
  · obtain ⟨a, vs, rfl, _⟩ := rx; rfl
  · obtain ⟨a, vs, rfl, _⟩ := rx; rfl
  · obtain ⟨a, rfl, _⟩ := rx; rfl
theorem ltT_ok (s : Sim k fl bs G m S H) {x y : D} {v w : V} {z : Bool} (rx : RV k G m x v) (ry : RV k G m y w) (e : ltT x y = some z) :
    (∃ i j, v = .int i ∧ w = .int j ∧ z = decide (i < j)) ∨ ∃ a b ns ms, v = .ref a ∧ w = .ref b ∧ SqT k.K H a (ns.map V.int) ∧ SqT k.K H b (ms.map V.int) ∧ z = HT.lexLt ns ms := by
  by_cases hi : ∃ i j, x = .int i ∧ y = .int j
  · obtain ⟨i, j, rfl, rfl⟩ := hi
    simp only [ltT, Option.some.injEq] at e
    subst e
    exact .inl ⟨i, j, rx.int_inv, ry.int_inv, rfl⟩
  · have e' : (match (tupOf x).bind intsOf, (tupOf y).bind intsOf with
      | some ns, some ms => some (HT.lexLt ns ms)
      | _, _ => none) = some z := by
      rw [← e]
      cases x <;> cases y <;> first | rfl | exact absurd ⟨_, _, rfl, rfl⟩ hi
    split at e'
    · rename_i ns ms h1 h2
      cases e'
      simp only [Option.bind_eq_some_iff] at h1 h2
      obtain ⟨xs, h1, h3⟩ := h1
      obtain ⟨ys, h2, h4⟩ := h2
      obtain ⟨a, vs, rfl, e1, r1⟩ := tupOf_ok s rx h1
      obtain ⟨b, ws, rfl, e2, r2⟩ := tupOf_ok s ry h2
      rw [intsOf_ok r1 h3] at e1
      rw [intsOf_ok r2 h4] at e2
      exact .inr ⟨a, b, ns, ms, rfl, rfl, e1, e2, rfl⟩
    · cases e'
theorem ltD_ok {f : Int → Int → Bool} {x y : D} {v w : V} {z : Bool} (rx : RV k G m x v) (ry : RV k G m y w) (e : ltD f x y = some z) : ∃ i j, v = .int i ∧ w = .int j ∧ z = f i j := by
  cases x <;> cases y <;> simp only [ltD, reduceCtorEq, Option.some.injEq] at e
  subst e
  exact ⟨_, _, rx.int_inv, ry.int_inv, rfl⟩
/-- the room that the rules ask of the stack -/
abbrev Ru (X : Cx) : Prop := X.A.units + 64 < cLine
theorem cmp_ok (op : CmpOp) (hK : k.K = X.K) (hu : Ru X) : ∃ r, OpR X (compareOp op) r ∧ Gc k fl bs r (fun S x y => cmpop op S x y) := by
  have hu1 : X.A.units + 1 < cLine := Nat.lt_of_le_of_lt (Nat.add_le_add_left (by decide : 1 ≤ 64) _) hu
  have hu0 : X.A.units < cLine := Nat.lt_of_le_of_lt (Nat.le_add_right _ _) hu
  cases op with
  | Eq =>
    refine ⟨_, op_eqD hu, fun G m S H x y v w z Q s rx ry e q => ?_⟩
    obtain ⟨a, b, h1, h2, h3, h4, rfl⟩ := eqD_ok s rx ry e
    exact ⟨a, b, hK ▸ h1, hK ▸ h2, h3, h4, q⟩
  | NotEq =>
    refine ⟨_, op_neD hu, fun G m S H x y v w z Q s rx ry e q => ?_⟩
    simp only [cmpop, Option.map_eq_some_iff] at e
    obtain ⟨z', e, rfl⟩ := e
    obtain ⟨a, b, h1, h2, h3, h4, rfl⟩ := eqD_ok s rx ry e
    exact ⟨a, b, hK ▸ h1, hK ▸ h2, h3, h4, q⟩
  | Lt =>
    refine ⟨_, op_lt.or (op_ltT hu0), fun G m S H x y v w z Q s rx ry e q => ?_⟩
    rcases ltT_ok s rx ry e with ⟨i, j, rfl, rfl, rfl⟩ | ⟨a, b, ns, ms, rfl, rfl, h1, h2, rfl⟩
    · exact .inl ⟨i, j, rfl, rfl, q⟩
    · exact .inr ⟨a, b, ns, ms, rfl, rfl, hK ▸ h1, hK ▸ h2, q⟩
  | LtE =>
    refine ⟨_, op_le, fun G m S H x y v w z Q s rx ry e q => ?_⟩
    obtain ⟨i, j, rfl, rfl, rfl⟩ := ltD_ok rx ry e
    exact ⟨i, j, rfl, rfl, q⟩
  | Gt =>
    refine ⟨_, op_gt, fun G m S H x y v w z Q s rx ry e q => ?_⟩
    obtain ⟨i, j, rfl, rfl, rfl⟩ := ltD_ok rx ry e
    exact ⟨i, j, rfl, rfl, q⟩
  | GtE =>
    refine ⟨_, op_ge, fun G m S H x y v w z Q s rx ry e q => ?_⟩
    obtain ⟨i, j, rfl, rfl, rfl⟩ := ltD_ok rx ry e
    exact ⟨i, j, rfl, rfl, q⟩
  | Is =>
    refine ⟨_, op_isN, fun G m S H x y v w z Q s rx ry e q => ?_⟩
    obtain ⟨rfl, rfl⟩ := isD_ok rx ry e
    exact ⟨rfl, q⟩
  | IsNot =>
    refine ⟨_, op_notN, fun G m S H x y v w z Q s rx ry e q => ?_⟩
    simp only [cmpop, Option.map_eq_some_iff] at e
    obtain ⟨z', e, rfl⟩ := e
    obtain ⟨rfl, rfl⟩ := isD_ok rx ry e
    exact ⟨rfl, q⟩
  | In =>
    refine ⟨_, (op_inK hu1).or op_in_seq, fun G m S H x y v w z Q s rx ry e q => ?_⟩
    rcases inD_ok s rx ry e with ⟨a, o, rfl, g, rfl⟩ | ⟨p, ws, rfl, h1, h2, h3, rfl⟩
    · exact .inl ⟨a, o, rfl, g, q⟩
    · exact .inr ⟨p, ws, rfl, hK ▸ h1, h2, h3, q⟩
  | NotIn =>
    refine ⟨_, (op_notInK hu1).or op_notIn_seq, fun G m S H x y v w z Q s rx ry e q => ?_⟩
    simp only [cmpop, Option.map_eq_some_iff] at e
    obtain ⟨z', e, rfl⟩ := e
    rcases inD_ok s rx ry e with ⟨a, o, rfl, g, rfl⟩ | ⟨p, ws, rfl, h1, h2, h3, rfl⟩
    · exact .inl ⟨a, o, rfl, g, q⟩
    · exact .inr ⟨p, ws, rfl, hK ▸ h1, h2, h3, q⟩
theorem se_cmp {a b : Expr} {op : CmpOp} {pos : Pos} {fa fb : En → Sto → Rd} (hK : k.K = X.K) (hu : Ru X) (hm : behindInMarks op b = false) (ha : SD k fl bs X a fa) (hb : SD k fl bs X b fb) :
    SE k fl bs X (.Compare a [op] [b] pos) (fun ρ S => (fa ρ S).bind fun p => (fb ρ p.2).bind fun q => (cmpop op q.2 p.1 q.1).map fun v => (.d (.bl v), q.2)) := by
  obtain ⟨ta, pa, la⟩ := ha
  obtain ⟨tb, pb, lb⟩ := hb
  obtain ⟨r, ho, hr⟩ := cmp_ok (k := k) (fl := fl) (bs := bs) op hK hu
  refine ⟨_, pe_cmpR ho pa pb hm, ld2 (g := fun x S y => (cmpop op S x y).map fun v => (.d (.bl v), S)) la lb fun G m S H x y v w z S' Q s rx ry e hQ => ?_⟩
  simp only [Option.map_eq_some_iff, Prod.mk.injEq] at e
  obtain ⟨u, e1, rfl, rfl⟩ := e
  exact hr G m S H x y v w u Q s rx ry e1 (done_d s hQ RV.ofB)
theorem se_cmp2 {a b c : Expr} {op op' : CmpOp} {pos : Pos} {fa fb fc : En → Sto → Rd} (hK : k.K = X.K) (hu : Ru X) (hm : lastMarks [op, op'] [b, c] = false)
    (ha : SD k fl bs X a fa) (hb : SD k fl bs X b fb) (hc : SD k fl bs X c fc) :
    SE k fl bs X (.Compare a [op, op'] [b, c] pos) (fun ρ S => (fa ρ S).bind fun r => (fb ρ r.2).bind fun q => (cmpop op q.2 r.1 q.1).bind fun v =>
      if v = true then (fc ρ q.2).bind fun t => (cmpop op' t.2 q.1 t.1).map fun v => (.d (.bl v), t.2) else some (.d (.bl false), q.2)) := by
  obtain ⟨ta, pa, la⟩ := ha
  obtain ⟨tb, pb, lb⟩ := hb
  obtain ⟨tc, pc, lc⟩ := hc
  obtain ⟨r, ho, hr⟩ := cmp_ok (k := k) (fl := fl) (bs := bs) op hK hu
  obtain ⟨r', ho', hr'⟩ := cmp_ok (k := k) (fl := fl) (bs := bs) op' hK hu
  refine ⟨_, pe_chain ho ho' pa pb pc hm, fun G m ρ S σ H z S' Q s re e hQ => ?_⟩
  simp only [Option.bind_eq_some_iff] at e
  obtain ⟨⟨x, S1⟩, e1, ⟨y, S2⟩, e2, u, e3, e4⟩ := e
  refine la G m ρ S σ H x S1 _ s re e1 fun G1 m1 v H1 x1 s1 r1 => ?_
  refine lb G1 m1 ρ S1 σ H1 y S2 _ s1 (re.ext x1) e2 fun G2 m2 w H2 x2 s2 r2 => ?_
  refine hr G2 m2 S2 H2 x y v w u _ s2 (RV.ext x2 r1) r2 e3 ⟨u, rfl, ?_⟩
  cases u with
  | false =>
    simp only [Bool.false_eq_true, if_false, Option.some.injEq, Prod.mk.injEq] at e4
    obtain ⟨rfl, rfl⟩ := e4
    exact hQ G2 m2 _ H2 (x1.trans x2) s2 (RV.ofB (k := k) (G := G2) (m := m2) (i := false))
  | true =>
    simp only [if_true, Option.bind_eq_some_iff, Option.map_eq_some_iff, Prod.mk.injEq] at e4
    obtain ⟨⟨t, S3⟩, e5, b, e6, rfl, rfl⟩ := e4
    refine lc G2 m2 ρ S2 σ H2 t S3 _ s2 (re.ext (x1.trans x2)) e5 fun G3 m3 o H3 x3 s3 r3 => ?_
    exact hr' G3 m3 S3 H3 y t w o b Q s3 (RV.ext x3 r2) r3 e6 (hQ G3 m3 _ H3 (x1.trans (x2.trans x3)) s3 (RV.ofB (k := k) (G := G3) (m := m3)))

/-! truth -/
theorem truth_ok (s : Sim k fl bs G m S H) {x : D} {v : V} {b : Bool} (r : RV k G m x v) (e : truth S x = some b) : TruV k.K v H b := by
  have big : ∀ {xs : List D}, seqOf S x = some xs → b = !xs.isEmpty → TruV k.K v H b := fun {xs} h1 h2 => by
    obtain ⟨a, vs, rfl, e1, r1⟩ := seqOf_ok s r h1
    have : xs.isEmpty = vs.isEmpty := by
      have := r1.length
      cases xs <;> cases vs <;> simp at this <;> rfl
    rw [h2, this]
    rcases e1 with e1 | e1
    · exact .inl ⟨vs, e1, rfl⟩
    · exact .inr (.inl ⟨vs, e1, rfl⟩)
  cases x with
  | non => simp only [truth, Option.some.injEq] at e; simp only [RV] at r; subst r; exact e.symm
  | bl c => simp only [truth, Option.some.injEq] at e; simp only [RV] at r; subst r; exact e.symm
  | int c => simp only [truth, Option.some.injEq] at e; simp only [RV] at r; subst r; exact e.symm
  | str c =>
    simp only [truth] at e
    split at e
    · rename_i hl
      simp only [Option.some.injEq] at e
      simp only [RV] at r
      subst r
      refine ⟨hl, e.symm.trans ?_⟩
      cases hc : c.length <;> simp
      omega
    · cases e
  | tup xs => exact big (xs := xs) (by simp [seqOf, tupOf]) (by simpa [truth, seqOf, tupOf] using e.symm)
  | ctup xs => exact big (xs := xs) (by simp [seqOf, tupOf]) (by simpa [truth, seqOf, tupOf] using e.symm)
  | lst xs => exact big (xs := xs) (by simp [seqOf, tupOf, lstOf]) (by simpa [truth, seqOf, tupOf, lstOf] using e.symm)
  | slst xs => exact big (xs := xs) (by simp [seqOf, tupOf, lstOf]) (by simpa [truth, seqOf, tupOf, lstOf] using e.symm)
  | ty n => simp [truth, seqOf, tupOf, lstOf] at e
  | cl n => simp [truth, seqOf, tupOf, lstOf] at e
  | loc n =>
    simp only [truth] at e
    split at e
    · rename_i xs h
      exact big h (by simpa using e.symm)
    · split at e
      · rename_i kvs hn
        cases e
        simp only [RV] at r
        obtain ⟨a, rfl, ha⟩ := r
        obtain ⟨ws, h1, h2⟩ := s.cel n _ a hn ha
        refine .inr (.inr ⟨ws, h1, ?_⟩)
        cases kvs with
        | nil => rw [show ws = [] from h2]; rfl
        | cons p q => obtain ⟨a, b⟩ := p; obtain ⟨_, _, rfl, _⟩ := h2; rfl
      · cases e
theorem SD.t {e : Expr} {f : En → Sto → Rd} (hK : k.K = X.K) (h : SD k fl bs X e f) (he : ∀ whole, isTrue e X.env whole = (do let v ← whole; standAt e.pos; holding [v] (truthy v))) : ST k fl bs X e (fun ρ S => tOf (f ρ S)) := by
  obtain ⟨te, p, l⟩ := h
  refine ⟨_, pt_truth p he, fun G m ρ S σ H r S' Q s re e hQ => ?_⟩
  simp only [tOf, Option.bind_eq_some_iff, Option.map_eq_some_iff, Prod.mk.injEq] at e
  obtain ⟨⟨d, S1⟩, e1, b, e2, rfl, rfl⟩ := e
  refine l G m ρ S σ H d S1 _ s re e1 fun G1 m1 v H1 x1 s1 r1 => ⟨b, hK ▸ truth_ok s1 r1 e2, hQ G1 m1 H1 x1 s1⟩
/-- a test that is a comparison -/
theorem st_cmp {a b : Expr} {op : CmpOp} {pos : Pos} {fa fb : En → Sto → Rd} (hK : k.K = X.K) (hu : Ru X) (hm : behindInMarks op b = false) (ha : SD k fl bs X a fa) (hb : SD k fl bs X b fb) :
    ST k fl bs X (.Compare a [op] [b] pos) (fun ρ S => (fa ρ S).bind fun p => (fb ρ p.2).bind fun q => (cmpop op q.2 p.1 q.1).map fun v => (v, q.2)) := by
  obtain ⟨ta, pa, la⟩ := ha
  obtain ⟨tb, pb, lb⟩ := hb
  obtain ⟨r, ho, hr⟩ := cmp_ok (k := k) (fl := fl) (bs := bs) op hK hu
  refine ⟨_, pt_cmpR ho pa pb hm, fun G m ρ S σ H z S' Q s re e hQ => ?_⟩
  simp only [Option.bind_eq_some_iff, Option.map_eq_some_iff, Prod.mk.injEq] at e
  obtain ⟨⟨x, S1⟩, e1, ⟨y, S2⟩, e2, u, e3, rfl, rfl⟩ := e
  refine la G m ρ S σ H x S1 _ s re e1 fun G1 m1 v H1 x1 s1 r1 => ?_
  refine lb G1 m1 ρ S1 σ H1 y S2 _ s1 (re.ext x1) e2 fun G2 m2 w H2 x2 s2 r2 => ?_
  exact hr G2 m2 S2 H2 x y v w u _ s2 (RV.ext x2 r1) r2 e3 ⟨u, rfl, hQ G2 m2 H2 (x1.trans x2) s2⟩
theorem st_cmp2 {a b c : Expr} {op op' : CmpOp} {pos : Pos} {fa fb fc : En → Sto → Rd} (hK : k.K = X.K) (hu : Ru X) (hm : lastMarks [op, op'] [b, c] = false)
    (ha : SD k fl bs X a fa) (hb : SD k fl bs X b fb) (hc : SD k fl bs X c fc) :
    ST k fl bs X (.Compare a [op, op'] [b, c] pos) (fun ρ S => (fa ρ S).bind fun r => (fb ρ r.2).bind fun q => (cmpop op q.2 r.1 q.1).bind fun v =>
      if v = true then (fc ρ q.2).bind fun t => (cmpop op' t.2 q.1 t.1).map fun v => (v, t.2) else some (false, q.2)) := by
  obtain ⟨ta, pa, la⟩ := ha
  obtain ⟨tb, pb, lb⟩ := hb
  obtain ⟨tc, pc, lc⟩ := hc
  obtain ⟨r, ho, hr⟩ := cmp_ok (k := k) (fl := fl) (bs := bs) op hK hu
  obtain ⟨r', ho', hr'⟩ := cmp_ok (k := k) (fl := fl) (bs := bs) op' hK hu
  refine ⟨_, pt_chain ho ho' pa pb pc hm, fun G m ρ S σ H z S' Q s re e hQ => ?_⟩
  simp only [Option.bind_eq_some_iff] at e
  obtain ⟨⟨x, S1⟩, e1, ⟨y, S2⟩, e2, u, e3, e4⟩ := e
  refine la G m ρ S σ H x S1 _ s re e1 fun G1 m1 v H1 x1 s1 r1 => ?_
  refine lb G1 m1 ρ S1 σ H1 y S2 _ s1 (re.ext x1) e2 fun G2 m2 w H2 x2 s2 r2 => ?_
  refine hr G2 m2 S2 H2 x y v w u _ s2 (RV.ext x2 r1) r2 e3 ⟨u, rfl, ?_⟩
  cases u with
  | false =>
    simp only [Bool.false_eq_true, if_false, Option.some.injEq, Prod.mk.injEq] at e4
    obtain ⟨rfl, rfl⟩ := e4
    exact ⟨false, rfl, hQ G2 m2 H2 (x1.trans x2) s2⟩
  | true =>
    simp only [if_true, Option.bind_eq_some_iff, Option.map_eq_some_iff, Prod.mk.injEq] at e4
    obtain ⟨⟨t, S3⟩, e5, b, e6, rfl, rfl⟩ := e4
    refine lc G2 m2 ρ S2 σ H2 t S3 _ s2 (re.ext (x1.trans x2)) e5 fun G3 m3 o H3 x3 s3 r3 => ?_
    exact hr' G3 m3 S3 H3 y t w o b _ s3 (RV.ext x3 r2) r3 e6 ⟨b, rfl, hQ G3 m3 H3 (x1.trans (x2.trans x3)) s3⟩
end
end EV
end
section
set_option maxRecDepth 100000
set_option autoImplicit false
/-! EV: and, or, not, if-else; displays; subscripts; fields. -/
namespace EV
open PySem L2

section
variable {k : Kx} {fl : List Str} {bs : List Nat} {X : Cx} {G G' : Hp} {m m' : List Addr} {S S' : Sto} {H H' : Hp}

theorem se_one {op : BoolOp} {a : Expr} {pos : Pos} {f : En → Sto → Rv} (h : SE k fl bs X a f) : SE k fl bs X (.BoolOp op [a] pos) f := by
  obtain ⟨t, p, l⟩ := h
  exact ⟨t, pe_one p, l⟩
theorem se_and {a b : Expr} {rest : List Expr} {pos : Pos} {fa : En → Sto → Rd} {fb : En → Sto → Rv} (hK : k.K = X.K) (ha : SD k fl bs X a fa) (hb : SE k fl bs X (.BoolOp .And (b :: rest) pos) fb) :
    SE k fl bs X (.BoolOp .And (a :: b :: rest) pos) (fun ρ S => (fa ρ S).bind fun r => (truth r.2 r.1).bind fun t => if t = true then fb ρ r.2 else some (.d r.1, r.2)) := by
  obtain ⟨ta, pa, la⟩ := ha
  obtain ⟨tb, pb, lb⟩ := hb
  refine ⟨_, pe_andT pa pb, fun G m ρ S σ H z S' Q s re e hQ => ?_⟩
  simp only [Option.bind_eq_some_iff] at e
  obtain ⟨⟨x, S1⟩, e1, t, e2, e3⟩ := e
  refine la G m ρ S σ H x S1 _ s re e1 fun G1 m1 v H1 x1 s1 r1 => ⟨t, hK ▸ truth_ok s1 r1 e2, ?_⟩
  cases t with
  | true => exact iteT (lb G1 m1 ρ S1 σ H1 z S' Q s1 (re.ext x1) e3 fun G2 m2 w H2 x2 s2 r2 => hQ G2 m2 w H2 (x1.trans x2) s2 (r2.back x1))
  | false =>
    simp only [Bool.false_eq_true, if_false, Option.some.injEq, Prod.mk.injEq] at e3
    obtain ⟨rfl, rfl⟩ := e3
    exact iteF (hQ G1 m1 v H1 x1 s1 r1)
theorem se_or {a b : Expr} {rest : List Expr} {pos : Pos} {fa : En → Sto → Rd} {fb : En → Sto → Rv} (hK : k.K = X.K) (ha : SD k fl bs X a fa) (hb : SE k fl bs X (.BoolOp .Or (b :: rest) pos) fb) :
    SE k fl bs X (.BoolOp .Or (a :: b :: rest) pos) (fun ρ S => (fa ρ S).bind fun r => (truth r.2 r.1).bind fun t => if t = true then some (.d r.1, r.2) else fb ρ r.2) := by
  obtain ⟨ta, pa, la⟩ := ha
  obtain ⟨tb, pb, lb⟩ := hb
  refine ⟨_, pe_orT pa pb, fun G m ρ S σ H z S' Q s re e hQ => ?_⟩
  simp only [Option.bind_eq_some_iff] at e
  obtain ⟨⟨x, S1⟩, e1, t, e2, e3⟩ := e
  refine la G m ρ S σ H x S1 _ s re e1 fun G1 m1 v H1 x1 s1 r1 => ⟨t, hK ▸ truth_ok s1 r1 e2, ?_⟩
  cases t with
  | false => exact iteF (lb G1 m1 ρ S1 σ H1 z S' Q s1 (re.ext x1) e3 fun G2 m2 w H2 x2 s2 r2 => hQ G2 m2 w H2 (x1.trans x2) s2 (r2.back x1))
  | true =>
    simp only [if_true, Option.some.injEq, Prod.mk.injEq] at e3
    obtain ⟨rfl, rfl⟩ := e3
    exact iteT (hQ G1 m1 v H1 x1 s1 r1)
theorem se_not {a : Expr} {pos : Pos} {fa : En → Sto → Rd} (hK : k.K = X.K) (ha : SD k fl bs X a fa) :
    SE k fl bs X (.UnaryOp .Not a pos) (fun ρ S => (tOf (fa ρ S)).map fun t => (.d (.bl (!t.1)), t.2)) := by
  obtain ⟨ta, pa, la⟩ := ha
  refine ⟨_, pe_notT pa, fun G m ρ S σ H z S' Q s re e hQ => ?_⟩
  simp only [tOf, Option.map_eq_some_iff, Option.bind_eq_some_iff, Prod.mk.injEq] at e
  obtain ⟨⟨b, S2⟩, e0, rfl, rfl⟩ := e
  obtain ⟨⟨x, S1⟩, e1, e2⟩ := e0
  have e3 : truth S1 x = some b ∧ S1 = S2 := by cases b <;> simpa using e2
  obtain ⟨e3, rfl⟩ := e3
  exact la G m ρ S σ H x S1 _ s re e1 fun G1 m1 v H1 x1 s1 r1 => ⟨b, hK ▸ truth_ok s1 r1 e3, hQ G1 m1 _ H1 x1 s1 (RV.ofB (k := k) (G := G1) (m := m1) (i := !b))⟩
theorem se_ite {c a b : Expr} {pos : Pos} {fc : En → Sto → Option (Bool × Sto)} {fa fb : En → Sto → Rv} (hc : ST k fl bs X c fc) (ha : SE k fl bs X a fa) (hb : SE k fl bs X b fb) :
    SE k fl bs X (.IfExp c a b pos) (fun ρ S => (fc ρ S).bind fun t => if t.1 = true then fa ρ t.2 else fb ρ t.2) := by
  obtain ⟨tc, pc, lc⟩ := hc
  obtain ⟨ta, pa, la⟩ := ha
  obtain ⟨tb, pb, lb⟩ := hb
  refine ⟨_, pe_ifExp pc pa pb, fun G m ρ S σ H z S' Q s re e hQ => ?_⟩
  simp only [Option.bind_eq_some_iff] at e
  obtain ⟨⟨t, S1⟩, e1, e2⟩ := e
  refine lc G m ρ S σ H t S1 _ s re e1 fun G1 m1 H1 x1 s1 => ?_
  cases t with
  | true => exact iteT (la G1 m1 ρ S1 σ H1 z S' Q s1 (re.ext x1) e2 fun G2 m2 w H2 x2 s2 r2 => hQ G2 m2 w H2 (x1.trans x2) s2 (r2.back x1))
  | false => exact iteF (lb G1 m1 ρ S1 σ H1 z S' Q s1 (re.ext x1) e2 fun G2 m2 w H2 x2 s2 r2 => hQ G2 m2 w H2 (x1.trans x2) s2 (r2.back x1))
/-! tests -/
def SW (k : Kx) (fl : List Str) (bs : List Nat) (X : Cx) (e : Expr) (f : En → Sto → Option (Bool × Sto)) : Prop := ∃ te, PW X e te ∧ LT k fl bs te f
theorem SW.t {e : Expr} {f : En → Sto → Option (Bool × Sto)} (h : SW k fl bs X e f) : ST k fl bs X e f := by
  obtain ⟨t, p, l⟩ := h
  exact ⟨t, p.pt, l⟩
theorem sw_and1 {a : Expr} {pos : Pos} {f : En → Sto → Option (Bool × Sto)} (h : ST k fl bs X a f) : SW k fl bs X (.BoolOp .And [a] pos) f := by
  obtain ⟨t, p, l⟩ := h
  exact ⟨t, pw_and1 p, l⟩
theorem sw_or1 {a : Expr} {pos : Pos} {f : En → Sto → Option (Bool × Sto)} (h : ST k fl bs X a f) : SW k fl bs X (.BoolOp .Or [a] pos) f := by
  obtain ⟨t, p, l⟩ := h
  exact ⟨t, pw_or1 p, l⟩
theorem sw_and {a b : Expr} {rest : List Expr} {pos : Pos} {fa fb : En → Sto → Option (Bool × Sto)} (ha : ST k fl bs X a fa) (hb : SW k fl bs X (.BoolOp .And (b :: rest) pos) fb) :
    SW k fl bs X (.BoolOp .And (a :: b :: rest) pos) (fun ρ S => (fa ρ S).bind fun t => if t.1 = true then fb ρ t.2 else some (false, t.2)) := by
  obtain ⟨ta, pa, la⟩ := ha
  obtain ⟨tb, pb, lb⟩ := hb
  refine ⟨_, pw_and pa pb, fun G m ρ S σ H z S' Q s re e hQ => ?_⟩
  simp only [Option.bind_eq_some_iff] at e
  obtain ⟨⟨t, S1⟩, e1, e2⟩ := e
  refine la G m ρ S σ H t S1 _ s re e1 fun G1 m1 H1 x1 s1 => ?_
  cases t with
  | true => exact iteT (lb G1 m1 ρ S1 σ H1 z S' Q s1 (re.ext x1) e2 fun G2 m2 H2 x2 s2 => hQ G2 m2 H2 (x1.trans x2) s2)
  | false =>
    simp only [Bool.false_eq_true, if_false, Option.some.injEq, Prod.mk.injEq] at e2
    obtain ⟨rfl, rfl⟩ := e2
    exact iteF (hQ G1 m1 H1 x1 s1)
theorem sw_or {a b : Expr} {rest : List Expr} {pos : Pos} {fa fb : En → Sto → Option (Bool × Sto)} (ha : ST k fl bs X a fa) (hb : SW k fl bs X (.BoolOp .Or (b :: rest) pos) fb) :
    SW k fl bs X (.BoolOp .Or (a :: b :: rest) pos) (fun ρ S => (fa ρ S).bind fun t => if t.1 = true then some (true, t.2) else fb ρ t.2) := by
  obtain ⟨ta, pa, la⟩ := ha
  obtain ⟨tb, pb, lb⟩ := hb
  refine ⟨_, pw_or pa pb, fun G m ρ S σ H z S' Q s re e hQ => ?_⟩
  simp only [Option.bind_eq_some_iff] at e
  obtain ⟨⟨t, S1⟩, e1, e2⟩ := e
  refine la G m ρ S σ H t S1 _ s re e1 fun G1 m1 H1 x1 s1 => ?_
  cases t with
  | false => exact iteF (lb G1 m1 ρ S1 σ H1 z S' Q s1 (re.ext x1) e2 fun G2 m2 H2 x2 s2 => hQ G2 m2 H2 (x1.trans x2) s2)
  | true =>
    simp only [if_true, Option.some.injEq, Prod.mk.injEq] at e2
    obtain ⟨rfl, rfl⟩ := e2
    exact iteT (hQ G1 m1 H1 x1 s1)
theorem st_not {a : Expr} {pos : Pos} {fa : En → Sto → Option (Bool × Sto)} (ha : ST k fl bs X a fa) : ST k fl bs X (.UnaryOp .Not a pos) (fun ρ S => (fa ρ S).map fun t => (!t.1, t.2)) := by
  obtain ⟨ta, pa, la⟩ := ha
  refine ⟨_, pt_not pa, fun G m ρ S σ H z S' Q s re e hQ => ?_⟩
  simp only [Option.map_eq_some_iff, Prod.mk.injEq] at e
  obtain ⟨⟨t, S1⟩, e1, rfl, rfl⟩ := e
  exact la G m ρ S σ H t S1 _ s re e1 fun G1 m1 H1 x1 s1 => hQ G1 m1 H1 x1 s1
theorem pt_ifExp {c a b : Expr} {pos : Pos} {tc ta tb : TT} (hc : PT X c tc) (ha : PT X a ta) (hb : PT X b tb) : PT X (.IfExp c a b pos) (fun σ H Q => tc σ H fun t H1 => if t = true then ta σ H1 Q else tb σ H1 Q) := by
  refine ⟨fun pins s σ H Q I h => ?_⟩
  refine PyProof.Rows.isTrue_IfExp (thn (hc.run pins s σ H _ I h) fun d s1 ⟨H1, I1, q1⟩ => ?_)
  cases d with
  | true => exact ha.run pins s1 σ H1 Q I1 q1
  | false => exact hb.run pins s1 σ H1 Q I1 q1
theorem st_ite {c a b : Expr} {pos : Pos} {fc fa fb : En → Sto → Option (Bool × Sto)} (hc : ST k fl bs X c fc) (ha : ST k fl bs X a fa) (hb : ST k fl bs X b fb) :
    ST k fl bs X (.IfExp c a b pos) (fun ρ S => (fc ρ S).bind fun t => if t.1 = true then fa ρ t.2 else fb ρ t.2) := by
  obtain ⟨tc, pc, lc⟩ := hc
  obtain ⟨ta, pa, la⟩ := ha
  obtain ⟨tb, pb, lb⟩ := hb
  refine ⟨_, pt_ifExp pc pa pb, fun G m ρ S σ H z S' Q s re e hQ => ?_⟩
  simp only [Option.bind_eq_some_iff] at e
  obtain ⟨⟨t, S1⟩, e1, e2⟩ := e
  refine lc G m ρ S σ H t S1 _ s re e1 fun G1 m1 H1 x1 s1 => ?_
  cases t with
  | true => exact iteT (la G1 m1 ρ S1 σ H1 z S' Q s1 (re.ext x1) e2 fun G2 m2 H2 x2 s2 => hQ G2 m2 H2 (x1.trans x2) s2)
  | false => exact iteF (lb G1 m1 ρ S1 σ H1 z S' Q s1 (re.ext x1) e2 fun G2 m2 H2 x2 s2 => hQ G2 m2 H2 (x1.trans x2) s2)
theorem ST.cg {e : Expr} {f g : En → Sto → Option (Bool × Sto)} (h : ST k fl bs X e f) (q : ∀ ρ S, f ρ S = g ρ S) : ST k fl bs X e g := by
  have : f = g := funext fun ρ => funext fun S => q ρ S
  exact this ▸ h
theorem SW.cg {e : Expr} {f g : En → Sto → Option (Bool × Sto)} (h : SW k fl bs X e f) (q : ∀ ρ S, f ρ S = g ρ S) : SW k fl bs X e g := by
  have : f = g := funext fun ρ => funext fun S => q ρ S
  exact this ▸ h
/-! the values' tests -/
theorem tOf_bl (r : Option (Bool × Sto)) : tOf (dOf (r.map fun t => (Vl.d (.bl t.1), t.2))) = r := by
  cases r <;> simp [tOf, dOf, Vl.frz, truth]
theorem tOf_and (r : Rd) (g : Sto → Rv) : tOf (dOf (r.bind fun r => (truth r.2 r.1).bind fun t => if t = true then g r.2 else some (.d r.1, r.2))) =
    (tOf r).bind fun t => if t.1 = true then tOf (dOf (g t.2)) else some (false, t.2) := by
  cases r with
  | none => rfl
  | some q =>
    cases h : truth q.2 q.1 with
    | none => simp [tOf, h, dOf]
    | some b => cases b <;> simp [tOf, h, dOf, Vl.frz]
theorem tOf_or (r : Rd) (g : Sto → Rv) : tOf (dOf (r.bind fun r => (truth r.2 r.1).bind fun t => if t = true then some (.d r.1, r.2) else g r.2)) =
    (tOf r).bind fun t => if t.1 = true then some (true, t.2) else tOf (dOf (g t.2)) := by
  cases r with
  | none => rfl
  | some q =>
    cases h : truth q.2 q.1 with
    | none => simp [tOf, h, dOf]
    | some b => cases b <;> simp [tOf, h, dOf, Vl.frz]
theorem tOf_ite (r : Option (Bool × Sto)) (f g : Sto → Rv) : tOf (dOf (r.bind fun t => if t.1 = true then f t.2 else g t.2)) = r.bind fun t => if t.1 = true then tOf (dOf (f t.2)) else tOf (dOf (g t.2)) := by
  cases r with
  | none => rfl
  | some q => cases h : q.1 <;> simp [h]

/-! displays -/
def noStar (e : Expr) : Bool := match e with | .Starred _ _ => false | _ => true
theorem star_no {e : Expr} {es : List Expr} {env : Env} (h : noStar e = true) : starEach (e :: es) env = (false, eval e env) :: starEach es env := by
  cases e <;> first | rfl | cases h
theorem sa_nil : SA k fl bs X [] (fun _ S => some ([], S)) := by
  refine ⟨_, pa_nil, fun G m ρ S σ H r S' Q s re e hQ => ?_⟩
  simp only [Option.some.injEq, Prod.mk.injEq] at e
  obtain ⟨rfl, rfl⟩ := e
  exact hQ G m [] H (Ext.refl _ _ _) s .nil
theorem sa_cons {e : Expr} {es : List Expr} {f : En → Sto → Rd} {g : En → Sto → Option (List D × Sto)} (hn : noStar e = true) (h : SD k fl bs X e f) (hr : SA k fl bs X es g) :
    SA k fl bs X (e :: es) (fun ρ S => (f ρ S).bind fun r => (g ρ r.2).map fun q => (r.1 :: q.1, q.2)) := by
  obtain ⟨t, p, l⟩ := h
  obtain ⟨u, p2, l2⟩ := hr
  refine ⟨_, pa_cons p p2 (star_no hn), fun G m ρ S σ H r S' Q s re e hQ => ?_⟩
  simp only [Option.bind_eq_some_iff, Option.map_eq_some_iff, Prod.mk.injEq] at e
  obtain ⟨⟨x, S1⟩, e1, ⟨xs, S2⟩, e2, rfl, rfl⟩ := e
  refine l G m ρ S σ H x S1 _ s re e1 fun G1 m1 v H1 x1 s1 r1 => ?_
  refine l2 G1 m1 ρ S1 σ H1 xs S2 _ s1 (re.ext x1) e2 fun G2 m2 vs H2 x2 s2 r2 => ?_
  exact hQ G2 m2 (v :: vs) H2 (x1.trans x2) s2 (.cons (RV.ext x2 r1) r2)
theorem sa_star {e : Expr} {p : Pos} {es : List Expr} {f : En → Sto → Rd} {g : En → Sto → Option (List D × Sto)} (hK : k.K = X.K) (h : SD k fl bs X e f) (hr : SA k fl bs X es g) :
    SA k fl bs X (.Starred e p :: es) (fun ρ S => (f ρ S).bind fun r => (seqOf r.2 r.1).bind fun xs => (g ρ r.2).map fun q => (xs ++ q.1, q.2)) := by
  obtain ⟨t, p, l⟩ := h
  obtain ⟨u, p2, l2⟩ := hr
  refine ⟨_, StX.pa_star p p2, fun G m ρ S σ H r S' Q s re e hQ => ?_⟩
  simp only [Option.bind_eq_some_iff, Option.map_eq_some_iff, Prod.mk.injEq] at e
  obtain ⟨⟨x, S1⟩, e1, xs, e2, ⟨ys, S2⟩, e3, rfl, rfl⟩ := e
  refine l G m ρ S σ H x S1 _ s re e1 fun G1 m1 v H1 x1 s1 r1 => ?_
  obtain ⟨a, vs, rfl, q1, q2⟩ := seqOf_ok s1 r1 e2
  refine ⟨a, vs, rfl, (hK ▸ q1).symm, ?_⟩
  refine l2 G1 m1 ρ S1 σ H1 ys S2 _ s1 (re.ext x1) e3 fun G2 m2 ws H2 x2 s2 r2 => ?_
  exact hQ G2 m2 (vs ++ ws) H2 (x1.trans x2) s2 ((RVs.ext x2 q2).append r2)
theorem se_tup {es : List Expr} {n : Nat} {pos : Pos} {g : En → Sto → Option (List D × Sto)} (h : SA k fl bs X es g) : SE k fl bs X (.Tuple es n pos) (fun ρ S => (g ρ S).bind fun r => (tz r.1).map fun v => (v, r.2)) := by
  obtain ⟨t, p, l⟩ := h
  refine ⟨_, pe_tup p, fun G m ρ S σ H r S' Q s re e hQ => ?_⟩
  simp only [Option.bind_eq_some_iff, Option.map_eq_some_iff, Prod.mk.injEq, tz] at e
  obtain ⟨⟨xs, S1⟩, e1, v, e2, rfl, rfl⟩ := e
  split at e2
  · rename_i hz
    cases e2
    refine l G m ρ S σ H xs S1 _ s re e1 fun G1 m1 vs H1 x1 s1 r1 => ⟨by rw [← r1.length]; exact hz, ?_⟩
    exact new_tup s1 r1 fun G2 m2 w H2 x2 s2 r2 => hQ G2 m2 w H2 (x1.trans x2) s2 (r2.back x1)
  · cases e2
theorem se_lst {es : List Expr} {pos : Pos} {g : En → Sto → Option (List D × Sto)} (h : SA k fl bs X es g) : SE k fl bs X (.List es pos) (fun ρ S => (g ρ S).bind fun r => (lz r.1).map fun v => (v, r.2)) := by
  obtain ⟨t, p, l⟩ := h
  refine ⟨_, pe_lst p, fun G m ρ S σ H r S' Q s re e hQ => ?_⟩
  simp only [Option.bind_eq_some_iff, Option.map_eq_some_iff, Prod.mk.injEq, lz] at e
  obtain ⟨⟨xs, S1⟩, e1, v, e2, rfl, rfl⟩ := e
  split at e2
  · rename_i hz
    cases e2
    refine l G m ρ S σ H xs S1 _ s re e1 fun G1 m1 vs H1 x1 s1 r1 => ⟨by rw [← r1.length]; exact hz, ?_⟩
    exact new_lst s1 r1 fun G2 m2 w H2 x2 s2 r2 => hQ G2 m2 w H2 (x1.trans x2) s2 (r2.back x1)
  · cases e2
theorem se_emK {pos : Pos} : SE k fl bs X (.Dict [] [] pos) (fun _ S => some (.fK [], S)) := by
  refine ⟨_, pe_dnewK, fun G m ρ S σ H r S' Q s re e hQ p hp => ?_⟩
  simp only [Option.some.injEq, Prod.mk.injEq] at e
  obtain ⟨rfl, rfl⟩ := e
  obtain ⟨s1, x1⟩ := s.laid (o := .dK []) hp
  exact hQ G m _ _ x1 s1 ⟨p, [], rfl, hp, upd_same, s.gnone hp, s.no_m hp, rfl⟩
theorem se_emT {pos : Pos} : SE k fl bs X (.Dict [] [] pos) (fun _ S => some (.fT [], S)) := by
  refine ⟨_, pe_dnewT, fun G m ρ S σ H r S' Q s re e hQ p hp => ?_⟩
  simp only [Option.some.injEq, Prod.mk.injEq] at e
  obtain ⟨rfl, rfl⟩ := e
  obtain ⟨s1, x1⟩ := s.laid (o := .dT []) hp
  exact hQ G m _ _ x1 s1 ⟨p, [], rfl, hp, upd_same, s.gnone hp, s.no_m hp, rfl⟩
theorem se_new {e : Expr} {f : En → Sto → Rv} (h : SE k fl bs X e f) : SE k fl bs X e (fun ρ S => (f ρ S).bind fun r => (r.1.place r.2).map fun q => (.d q.1, q.2)) := by
  obtain ⟨t, p, l⟩ := h
  refine ⟨t, p, fun G m ρ S σ H r S' Q s re e hQ => ?_⟩
  simp only [Option.bind_eq_some_iff, Option.map_eq_some_iff, Prod.mk.injEq] at e
  obtain ⟨⟨v, S1⟩, e1, ⟨d, S2⟩, e2, rfl, rfl⟩ := e
  refine l G m ρ S σ H v S1 _ s re e1 fun G1 m1 w H1 x1 s1 r1 => ?_
  have fin : ∀ (a : Addr) (c : Cell), H a = none → a ∉ m1 → G1 a = none → RC k fl G1 m1 H1 a c → S2 = S1 ++ [c] → d = .loc S1.length → Q (.ref a) H1 := fun a c h0 h1 h2 h3 h4 h5 => by
    subst h4 h5
    obtain ⟨s2, x2⟩ := s1.place h1 h2 h3
    refine hQ G1 (m1 ++ [a]) _ H1 (x2 h0 x1) s2 ?_
    show RV k G1 (m1 ++ [a]) (.loc S1.length) (.ref a)
    simp only [RV]
    exact ⟨a, rfl, by rw [← s1.len]; simp⟩
  cases v with
  | d x => simp [Vl.place] at e2
  | fl xs =>
    simp only [Vl.place, Option.some.injEq, Prod.mk.injEq] at e2
    obtain ⟨a, vs, rfl, h0, h1, h2, h3, h4⟩ := r1
    exact fin a (.lst xs) h0 h3 h2 ⟨vs, h1, h4⟩ e2.2.symm e2.1.symm
  | fK xs =>
    simp only [Vl.place, Option.some.injEq, Prod.mk.injEq] at e2
    obtain ⟨a, vs, rfl, h0, h1, h2, h3, h4⟩ := r1
    exact fin a (.dK xs) h0 h3 h2 ⟨vs, h1, h4⟩ e2.2.symm e2.1.symm
  | fT xs =>
    simp only [Vl.place, Option.some.injEq, Prod.mk.injEq] at e2
    obtain ⟨a, vs, rfl, h0, h1, h2, h3, h4⟩ := r1
    exact fin a (.dT xs) h0 h3 h2 ⟨vs, h1, h4⟩ e2.2.symm e2.1.symm

/-! subscripts -/
def rIxD : R2 := fun x y H Q => ∃ a v, x = .ref a ∧ DGet H a y (some v) ∧ Q v H
theorem ix_dict (hu : X.A.units + 1 < cLine) : IxR X rIxD := by
  intro value slice pins s σ H x y v u Q I rx ry h hs
  obtain ⟨a, z, rfl, g, q⟩ := h
  obtain rfl : v = Value.ref a := rx
  exact PyProof.Rows.tail_any (dict_typeIs I g) PySem.F.slot_dict_getitem.lookup (d_getItem hu I g ry fun w' s3 I3 rw' => ⟨z, H, I3, rw', q⟩) hs
theorem atI_ok {xs : List D} {vs : List V} {i : Int} {d : D} (r : RVs k G m xs vs) (e : atI xs i = some d) : ∃ v, atI vs i = some v ∧ RV k G m d v := by
  unfold atI at e ⊢
  rw [← r.length]
  cases h : ixN xs.length i with
  | none => rw [h] at e; cases e
  | some j =>
    rw [h] at e
    exact r.get e
theorem itemAt_ok (s : Sim k fl bs G m S H) {x y : D} {v w : V} {d : D} {Q : VK} (hK : k.K = X.K) (rx : RV k G m x v) (ry : RV k G m y w) (e : itemAt S x y = some d) (hQ : ∀ u, RV k G m d u → Q u H) : rIx X.K v w H Q ∨ rIxD v w H Q := by
  have dk : (∃ n c, x = .loc n ∧ S[n]? = some c ∧ (dget c y).join = some d) → rIx X.K v w H Q ∨ rIxD v w H Q := fun ⟨n, c, h1, h2, h3⟩ => by
    subst h1
    simp only [RV] at rx
    obtain ⟨a, rfl, ha⟩ := rx
    have h4 : dget c y = some (some d) := by
      cases h : dget c y with
      | none => rw [h] at h3; cases h3
      | some o => rw [h] at h3; rw [show o = some d from h3]
    obtain ⟨o', g, u, rfl, ru⟩ := dget_ok s h2 ha ry h4
    exact .inr ⟨a, u, rfl, g, hQ u ru⟩
  cases y with
  | int i =>
    simp only [itemAt] at e
    split at e
    · rename_i xs h1
      obtain ⟨a, vs, rfl, h2, h3⟩ := seqOf_ok s rx h1
      obtain ⟨u, h4, h5⟩ := atI_ok h3 e
      rw [ry.int_inv]
      rcases h2 with h2 | h2
      · exact .inl (.inl ⟨a, vs, i, u, rfl, rfl, hK ▸ h2, h4, hQ u h5⟩)
      · exact .inl (.inr (.inl ⟨a, vs, i, u, rfl, rfl, hK ▸ h2, h4, hQ u h5⟩))
    · split at e
      · rename_i z _
        split at e
        · rename_i hz
          simp only [Option.map_eq_some_iff] at e
          obtain ⟨c, e1, rfl⟩ := e
          rw [rx.str_inv, ry.int_inv]
          exact .inl (.inr (.inr ⟨z, i, c, rfl, rfl, hz, e1, hQ _ RV.ofS⟩))
        · cases e
      · rename_i n _
        split at e
        · rename_i c hc
          exact dk ⟨n, c, rfl, hc, e⟩
        · cases e
      · cases e
  | _ =>
    simp only [itemAt] at e
    split at e
    · rename_i n
      split at e
      · rename_i c hc
        exact dk ⟨n, c, rfl, hc, e⟩
      · cases e
    · cases e
theorem se_ix {a b : Expr} {pos : Pos} {fa fb : En → Sto → Rd} (hK : k.K = X.K) (hu : Ru X) (hs : PlainIx b) (ha : SD k fl bs X a fa) (hb : SD k fl bs X b fb) :
    SE k fl bs X (.Subscript a b pos) (fun ρ S => (fa ρ S).bind fun r => (fb ρ r.2).bind fun q => (itemAt q.2 r.1 q.1).map fun v => (.d v, q.2)) := by
  obtain ⟨ta, pa, la⟩ := ha
  obtain ⟨tb, pb, lb⟩ := hb
  refine ⟨_, pe_ix (ix_seq.or (ix_dict (Nat.lt_of_le_of_lt (Nat.add_le_add_left (by decide : 1 ≤ 64) _) hu))) pa pb hs, ld2 (g := fun x S y => (itemAt S x y).map fun v => (.d v, S)) la lb fun G m S H x y v w z S' Q s rx ry e hQ => ?_⟩
  simp only [Option.map_eq_some_iff, Prod.mk.injEq] at e
  obtain ⟨u, e1, rfl, rfl⟩ := e
  exact itemAt_ok s hK rx ry e1 fun o ro => done_d s hQ ro
theorem plainIx {b : Expr} (h : (match b with | .Slice _ _ _ _ => false | _ => true) = true) : PlainIx b := by
  intro o i
  cases b <;> first | rfl | cases h

/-! slices -/
def LO (k : Kx) (fl : List Str) (bs : List Nat) (te : TO) (f : En → Sto → Option (Option Int × Sto)) : Prop := ∀ (G : Hp) (m : List Addr) (ρ : En) (S : Sto) (σ : L2.St) (H : Hp) (r : Option Int) (S' : Sto) (Q : Option Int → Hp → Prop),
  Sim k fl bs G m S H → RE k G m ρ σ → f ρ S = some (r, S') → (∀ (G' : Hp) (m' : List Addr) (H' : Hp), Ext G m H G' m' H' → Sim k fl bs G' m' S' H' → Q r H') → te σ H Q
def SO (k : Kx) (fl : List Str) (bs : List Nat) (X : Cx) (e : Option Expr) (f : En → Sto → Option (Option Int × Sto)) : Prop := ∃ te, PO X e te ∧ LO k fl bs te f
theorem so_none : SO k fl bs X none (fun _ S => some (none, S)) := by
  refine ⟨_, po_none, fun G m ρ S σ H r S' Q s re e hQ => ?_⟩
  simp only [Option.some.injEq, Prod.mk.injEq] at e
  obtain ⟨rfl, rfl⟩ := e
  exact hQ G m H (Ext.refl _ _ _) s
theorem so_some {e : Expr} {f : En → Sto → Rd} (h : SD k fl bs X e f) : SO k fl bs X (some e) (fun ρ S => (f ρ S).bind fun r => match r.1 with
    | .int i => some (some i, r.2)
    | _ => none) := by
  obtain ⟨t, p, l⟩ := h
  refine ⟨_, po_some p, fun G m ρ S σ H r S' Q s re e hQ => ?_⟩
  simp only [Option.bind_eq_some_iff] at e
  obtain ⟨⟨x, S1⟩, e1, e2⟩ := e
  cases x with
  | int i =>
    simp only [Option.some.injEq, Prod.mk.injEq] at e2
    obtain ⟨rfl, rfl⟩ := e2
    exact l G m ρ S σ H _ S1 _ s re e1 fun G1 m1 v H1 x1 s1 r1 => ⟨i, RV.int_inv r1, hQ G1 m1 H1 x1 s1⟩
  | _ => simp at e2
theorem cut_ok {xs : List D} {vs : List V} (r : RVs k G m xs vs) (lo hi : Option Int) : RVs k G m (cutD xs lo hi) (cutV vs lo hi) := by
  unfold cutD cutV
  rw [← r.length]
  exact (r.drop _).take _
/-- a slice by its step -/
theorem se_slG {st : Option Expr} {stp : Stp} {a : Expr} {lo hi : Option Expr} {p2 pos : Pos} {fa : En → Sto → Rd} {fl' fh : En → Sto → Option (Option Int × Sto)} {r : V → Option Int → Option Int → Hp → VK → Prop}
    (hp : ∀ ta tl th, PE X a ta → PO X lo tl → PO X hi th → PE X (.Subscript a (.Slice lo hi st p2) pos) (tSl r ta tl th))
    (hr : ∀ (G : Hp) (m : List Addr) (S : Sto) (H : Hp) (x : D) (v : V) (l h : Option Int) (z : Vl) (Q : VK), Sim k fl bs G m S H → RV k G m x v → slice S x l h stp = some z → Wn k fl bs G m H S (fun G' m' H' u => RL k H G' m' H' z u) Q → r v l h H Q)
    (ha : SD k fl bs X a fa) (hl : SO k fl bs X lo fl') (hh : SO k fl bs X hi fh) :
    SE k fl bs X (.Subscript a (.Slice lo hi st p2) pos) (fun ρ S => (fa ρ S).bind fun r => (fl' ρ r.2).bind fun l => (fh ρ l.2).bind fun h => (slice h.2 r.1 l.1 h.1 stp).map fun v => (v, h.2)) := by
  obtain ⟨ta, pa, la⟩ := ha
  obtain ⟨tl, pl, ll⟩ := hl
  obtain ⟨th, ph, lh⟩ := hh
  refine ⟨_, hp ta tl th pa pl ph, fun G m ρ S σ H z S' Q s re e hQ => ?_⟩
  simp only [Option.bind_eq_some_iff, Option.map_eq_some_iff, Prod.mk.injEq] at e
  obtain ⟨⟨x, S1⟩, e1, ⟨l, S2⟩, e2, ⟨h, S3⟩, e3, u, e4, rfl, rfl⟩ := e
  refine la G m ρ S σ H x S1 _ s re e1 fun G1 m1 v H1 x1 s1 r1 => ?_
  refine ll G1 m1 ρ S1 σ H1 l S2 _ s1 (re.ext x1) e2 fun G2 m2 H2 x2 s2 => ?_
  refine lh G2 m2 ρ S2 σ H2 h S3 _ s2 (re.ext (x1.trans x2)) e3 fun G3 m3 H3 x3 s3 => ?_
  exact hr G3 m3 S3 H3 x v l h u Q s3 (RV.ext x3 (RV.ext x2 r1)) e4 fun G4 m4 w H4 x4 s4 r4 => hQ G4 m4 w H4 (x1.trans (x2.trans (x3.trans x4))) s4 (r4.back (x1.trans (x2.trans x3)))
theorem se_sl1 {a : Expr} {lo hi : Option Expr} {p2 pos : Pos} {fa : En → Sto → Rd} {fl' fh : En → Sto → Option (Option Int × Sto)} (hK : k.K = X.K) (ha : SD k fl bs X a fa) (hl : SO k fl bs X lo fl') (hh : SO k fl bs X hi fh) :
    SE k fl bs X (.Subscript a (.Slice lo hi none p2) pos) (fun ρ S => (fa ρ S).bind fun r => (fl' ρ r.2).bind fun l => (fh ρ l.2).bind fun h => (slice h.2 r.1 l.1 h.1 .one).map fun v => (v, h.2)) := by
  refine se_slG (r := fun x l h H Q => rSlA X.K x l h H Q ∨ rSlL X.K x l h H Q) (fun ta tl th pa pl ph => pe_slice (sl_tupA.or sl_list) pa pl ph) ?_ ha hl hh
  intro G m S H x v l h z Q s r e hQ
  simp only [slice] at e
  split at e
  · rename_i xs h1
    cases e
    obtain ⟨a, vs, rfl, h2, h3⟩ := tupOf_ok s r h1
    refine .inl ⟨a, vs, rfl, hK ▸ h2, fun q => ?_, fun q => ?_⟩
    · rw [← h3.length] at q
      rw [if_pos q] at hQ
      exact done_d s hQ r
    · rw [← h3.length] at q
      rw [if_neg q] at hQ
      exact new_tup s (cut_ok h3 l h) hQ
  · split at e
    · rename_i xs h1
      cases e
      obtain ⟨a, vs, rfl, h2, h3⟩ := lstOf_ok s r h1
      exact .inr ⟨a, vs, rfl, hK ▸ h2, new_lst s (cut_ok h3 l h) hQ⟩
    · cases e

/-! fields -/
/-- what the walk knows of the classes -/
structure ClsOk (k : Kx) (fl : List Str) : Prop where
  cls : ∀ C a, k.ca C = some a → Cls k.K a
  no : ∀ C a x, k.ca C = some a → x ∈ fl → NoAttr k.K a x
  few : fl.length < 1000
  nd : fl.Nodup
def notSup (o : Expr) : Bool := match o with | .Call (.Name _ _) [] [] _ => false | _ => true
theorem base_of {o : Expr} {f : Str} {env : Env} (h : notSup o = true) (whole : Sem Value) : attributeBase o f env whole = whole := by
  cases o with
  | Call func args kws pos =>
    cases func with
    | Name id p =>
      cases args with
      | nil =>
        cases kws with
        | nil => cases h
        | cons => rfl
      | cons => rfl
    | _ => rfl
  | _ => rfl
theorem getFd_ok (s : Sim k fl bs G m S H) {x : D} {v : V} {i : Nat} {f : Str} {d : D} (hf : fl[i]? = some f) (r : RV k G m x v) (e : getFd S x i = some d) :
    ∃ a C ca dx ws u, v = .ref a ∧ k.ca C = some ca ∧ H a = some (.ins ca dx ws) ∧ ws.lookup f = some u ∧ RV k G m d u := by
  cases x with
  | loc n =>
    simp only [RV] at r
    obtain ⟨a, rfl, ha⟩ := r
    simp only [getFd] at e
    split at e
    · rename_i C fs hc
      obtain ⟨ca, dx, ws, h1, h2, h3, h4, _, h5⟩ := s.cel n _ a hc ha
      have := h5 i f hf
      rw [e] at this
      obtain ⟨u, h6, h7⟩ := this
      exact ⟨a, C, ca, dx, ws, u, rfl, h1, h2, h6, h7⟩
    · cases e
  | _ => simp [getFd] at e
theorem se_fld {o : Expr} {i : Nat} {f : Str} {pos : Pos} {fo : En → Sto → Rd} (hK : k.K = X.K) (c : ClsOk k fl) (hf : fl[i]? = some f) (hb : notSup o = true) (ho : SD k fl bs X o fo) :
    SE k fl bs X (.Attribute o f pos) (fun ρ S => (fo ρ S).bind fun r => (getFd r.2 r.1 i).map fun v => (.d v, r.2)) := by
  obtain ⟨t, p, l⟩ := ho
  refine ⟨_, pe_fld p (base_of hb _), fun G m ρ S σ H r S' Q s re e hQ => ?_⟩
  simp only [Option.bind_eq_some_iff, Option.map_eq_some_iff, Prod.mk.injEq] at e
  obtain ⟨⟨x, S1⟩, e1, d, e2, rfl, rfl⟩ := e
  refine l G m ρ S σ H x S1 _ s re e1 fun G1 m1 v H1 x1 s1 r1 => ?_
  obtain ⟨a, C, ca, dx, ws, u, rfl, h1, h2, h3, h4⟩ := getFd_ok s1 hf r1 e2
  exact ⟨a, ca, dx, ws, u, rfl, h2, hK ▸ c.cls C ca h1, hK ▸ c.no C ca f h1 (List.mem_of_getElem? hf), h3, hQ G1 m1 u H1 x1 s1 h4⟩
end
end EV
end
section
set_option maxRecDepth 100000
set_option autoImplicit false
/-! EV: sorted of a tuple, at the library's level. -/
namespace EV
open PySem PySem.Calls PyProof.Rows PySem.W
section
variable {prog : Program} {w : World} {A : Around} {E : Value → Shared → Prop} {s : Shared}
theorem collect_tup {l : Addr} {vs : List Value} {Q : List Value → Shared → Prop} (hl : s.heap.IsTuple l vs.toArray)
    (h : Q vs { s with heap := (s.heap.push (seqObj "list" #[] 0)).update s.heap.objs.size (Obj.mapSeq (· ++ vs.toArray)) }) (hsz : vs.length ≤ sizeLine) :
    wpAny (model prog w) A (collect (.ref l)) Q E s := by
  obtain ⟨o, ho, hc, n, hd⟩ := id hl
  unfold collect
  refine wpAny_bind (wpAny_runValue (codeAny_builtin entry_proto_collect' ?_))
  show wpAny _ _ (do again (.builtin "list.__iadd__" ⟨[← newList [], .ref l], []⟩)) _ _ s
  refine wpAny_bind (wpAny_newList (wpAny_pure ⟨Code.quiet_builtin _ (by decide +kernel), codeAny_builtin entry_list_iadd' ?_⟩))
  show wpAny _ _ (Builtin.List.listExtendWith (.ref s.heap.objs.size) (.ref l) (.ref s.heap.objs.size)) _ _ { s with heap := s.heap.push (seqObj "list" #[] 0) }
  unfold Builtin.List.listExtendWith
  have ho' : (s.heap.push (seqObj "list" #[] 0)).get? l = some o := Heap.get?_push_of_some _ ho
  refine wpAny_bind (wpAny_typeOf (T := "tuple") ⟨o, ho', hc⟩ ?_)
  have ht : (Value.type "tuple" == Value.type "tuple") = true := by rfl
  rw [if_pos (by rw [ht]; simp)]
  refine wpAny_bind (listItems_at ho' hd ?_)
  refine wpAny_bind (listItems_at (xs := #[]) (n := 0) (Heap.get?_push_size _ rfl) rfl ?_)
  rw [if_neg (by simp)]
  refine wpAny_bind (listUpdate_at (xs := #[]) (n := 0) (Heap.get?_push_size _ rfl) rfl ?_ (Nat.zero_le _) (by show (#[] ++ vs.toArray).size ≤ sizeLine + 1; simp only [Array.size_append, List.size_toArray, List.length_nil]; omega))
  refine wpAny_pure ?_
  show wpAny (model prog w) A (do
      let o ← load s.heap.objs.size
      match o.data with
      | .seq xs _ => pure xs.toList
      | _ => unsupported "internal:collect") Q E { s with heap := (s.heap.push (seqObj "list" #[] 0)).update s.heap.objs.size (Obj.mapSeq (· ++ vs.toArray)) }
  refine wpAny_bind (wpAny_load (get?_update_seq (Heap.get?_push_size _ rfl) _) ?_)
  show wpAny _ _ (pure ((#[] : Array Value) ++ vs.toArray).toList) Q E _
  rw [show ((#[] : Array Value) ++ vs.toArray).toList = vs by simp]
  exact wpAny_pure h
theorem sorted_of_sortT {l : Addr} {vs : List Value} {kw : List (Str × Value)} {Q : Value → Shared → Prop} (hl : s.heap.IsTuple l vs.toArray) (hL : vs.length ≤ sizeLine) (ha1 : argsOk "sorted" ⟨[.ref l], kw⟩) (ha2 : ∀ x, argsOk "list.sort" ⟨[.ref x], kw⟩)
    (body : ∀ E' : Value → Shared → Prop, wpAny (model prog w) A.in1.in1 (Builtin.«list.sort» ⟨[.ref (s.heap.objs.size + 1)], kw⟩) (fun f s' => f = .done (.ret .none) ∧ Q (.ref (s.heap.objs.size + 1)) s') E' { s with heap := copyHeap s.heap vs }) :
    wpAny (model prog w) A (call (.builtin "sorted") [.ref l] kw) Q E s := by
  refine call_function_entry_kw kind_sorted plain_sorted entry_sorted ha1 ?_
  unfold Builtin.«sorted»
  refine wpAny_bind (m := checkCount "sorted" 1 1 _) (wpAny_pure ?_)
  refine wpAny_bind (collect_tup hl ?_ hL)
  refine wpAny_bind (wpAny_newList ?_ hL)
  have hsz : ((s.heap.push (seqObj "list" #[] 0)).update s.heap.objs.size (Obj.mapSeq (· ++ vs.toArray))).objs.size = s.heap.objs.size + 1 := by
    rw [Heap.size_update, size_push']
  show wpAny _ _ _ _ _ { s with heap := copyHeap s.heap vs }
  rw [hsz]
  refine wpAny_bind (wpAny_holding (wpAny_call_entry_kw slot_list_sort ⟨_, copyHeap_at s.heap vs, rfl⟩ entry_list_sort ?body (ha2 _)))
  case body =>
    show wpAny (model prog w) A.in1.in1 (Builtin.«list.sort» ⟨[.ref (s.heap.objs.size + 1)], kw⟩) _ _ _
    refine wpAny_mono (body _) (fun f s' hf => ?_) fun _ _ e => e
    obtain ⟨rfl, hq⟩ := hf
    exact ⟨_, rfl, wpAny_pure ⟨_, rfl, hq⟩⟩
theorem sorted_dataT {β : Type} {vs : List Value} {bs : List β} {enc : β → PyData} {R : Value → β → Prop} {l : Addr} {Q : Value → Shared → Prop} (hl : s.heap.IsTuple l vs.toArray) (e : EachIs R vs bs) (er : EachIs (fun v b => ∃ as, Reads s.heap v (enc b) as) vs bs) (hal : AllAlike (bs.map enc)) (hk : Sortable (bs.map enc)) (hL : bs.length ≤ sizeLine)
    (hu : ∀ b, b ∈ bs → A.units + 2 + (enc b).depth < cLine) (h : ∀ out, out.length = bs.length → EachIs R out (bs.mergeSort (dataLe false enc)) → Q (.ref (s.heap.objs.size + 1)) { s with heap := sortedAll s.heap vs (List.toArray out) }) :
    wpAny (model prog w) A (call (.builtin "sorted") [.ref l]) Q E s := by
  have er' : EachIs (fun v b => ∃ as, Reads (sortingHeap (copyHeap s.heap vs) (s.heap.objs.size + 1) vs) v (enc b) as) vs bs := er.mono fun _ _ ⟨as, r⟩ => ⟨as, PyProof.Rows.Reads.keeps (fun _ _ => sorting_copy_old) r⟩
  have hLv : vs.length ≤ sizeLine := by rw [e.length]; exact hL
  refine sorted_of_sortT hl hLv (args_sorted1 _) (fun _ => args_list_sort _) fun _ => list_sort_vals (s := { s with heap := copyHeap s.heap vs }) (copyHeap_at s.heap vs) (SortsAt.data (s := { s with heap := sortingHeap (copyHeap s.heap vs) (s.heap.objs.size + 1) vs }) (each_map (R := fun v d => ∃ as, Reads (sortingHeap (copyHeap s.heap vs) (s.heap.objs.size + 1) vs) v d as) enc er') hal hk (bound_map hu)) hLv ⟨rfl, ?_⟩
  exact h _ (by rw [sortVals_length false rfl]; exact e.length) (sortVals_data false e er' hal)
end
end EV
end
section
set_option maxRecDepth 100000
set_option autoImplicit false
/-! EV: built-in functions and methods. -/
namespace EV
open PySem L2

section
variable {k : Kx} {fl : List Str} {bs : List Nat} {X : Cx} {G G' : Hp} {m m' : List Addr} {S S' : Sto} {H H' : Hp}

/-! isinstance -/
def tyN (S : Sto) : D → String
  | .non => "NoneType" | .bl _ => "bool" | .int _ => "int" | .str _ => "str" | .tup _ | .ctup _ => "tuple" | .lst _ => "list"
  | .loc n => match S[n]? with | some (.lst _) => "list" | _ => "dict"
  | _ => ""
theorem kit_all : ∀ a ∈ ["NoneType", "bool", "int", "str", "tuple", "list", "dict"], ∀ t ∈ ["bool", "int", "str", "tuple", "list"], kitB a t = some (if a = "bool" then t == "bool" || t == "int" else a == t) := by decide +kernel
theorem tyOk_mem {t : String} (h : tyOk t = true) : t ∈ ["bool", "int", "str", "tuple", "list"] := by
  simp only [tyOk, Bool.or_eq_true, beq_iff_eq] at h
  rcases h with (((h | h) | h) | h) | h <;> subst h <;> simp
theorem isK_ok (s : Sim k fl bs G m S H) {x : D} {v : V} {t : String} (r : RV k G m x v) (ht : tyOk t = true) (hx : kindOk S x = true) :
    TyX k.K H v (.type (tyN S x)) ∧ PySem.W.kitOne k.K (.type (tyN S x)) (.type t) = some (isK S x t) := by
  have hm := tyOk_mem ht
  have go : ∀ a, a ∈ ["NoneType", "bool", "int", "str", "tuple", "list", "dict"] → tyN S x = a → isK S x t = (if a = "bool" then t == "bool" || t == "int" else a == t) → PySem.W.kitOne k.K (.type (tyN S x)) (.type t) = some (isK S x t) := fun a h1 h2 h3 => by
    rw [h2, h3]
    exact kit_ty (kit_all a h1 t hm)
  have sy : ∀ a b : String, (a == b) = (b == a) := fun a b => by
    by_cases h : a = b
    · subst h; rfl
    · rw [beq_eq_false_iff_ne.mpr h, beq_eq_false_iff_ne.mpr (Ne.symm h)]
  cases x with
  | non => simp only [RV] at r; subst r; exact ⟨.base .non, go "NoneType" (by simp) rfl (by simp only [isK]; rw [if_neg (by decide)]; simp only [List.mem_cons, List.not_mem_nil, or_false] at hm; rcases hm with h | h | h | h | h <;> subst h <;> rfl)⟩
  | bl b => simp only [RV] at r; subst r; exact ⟨.base (.bl b), go "bool" (by simp) rfl (by simp [isK])⟩
  | int b => simp only [RV] at r; subst r; exact ⟨.base (.int b), go "int" (by simp) rfl (by simp only [isK]; rw [if_neg (by decide), sy])⟩
  | str b => simp only [RV] at r; subst r; exact ⟨.base (.str b), go "str" (by simp) rfl (by simp only [isK]; rw [if_neg (by decide), sy])⟩
  | tup xs =>
    simp only [RV] at r
    obtain ⟨a, vs, rfl, g, _⟩ := r
    exact ⟨.base (.tup (s.sub _ _ g)), go "tuple" (by simp) rfl (by simp only [isK]; rw [if_neg (by decide), sy])⟩
  | ctup xs =>
    simp only [RV] at r
    obtain ⟨a, vs, rfl, g, _⟩ := r
    refine ⟨?_, go "tuple" (by simp) rfl (by simp only [isK]; rw [if_neg (by decide), sy])⟩
    rcases g with (g | ⟨o, g⟩) | ⟨o, its, n, h1, h2, _⟩
    · cases g
    · cases g
    · exact .kTuple h1 h2
  | lst xs =>
    simp only [RV] at r
    obtain ⟨a, vs, rfl, g, _⟩ := r
    exact ⟨.base (.lst (s.sub _ _ g)), go "list" (by simp) rfl (by simp only [isK]; rw [if_neg (by decide), sy])⟩
  | loc n =>
    simp only [RV] at r
    obtain ⟨a, rfl, ha⟩ := r
    simp only [kindOk] at hx
    split at hx
    · rename_i xs hc
      obtain ⟨vs, h1, h2⟩ := s.cel n _ a hc ha
      refine ⟨?_, go "list" (by simp) (by simp [tyN, hc]) (by simp only [isK, hc]; rw [if_neg (by decide), sy])⟩
      rw [show tyN S (.loc n) = "list" by simp [tyN, hc]]
      exact .base (.lst h1)
    · rename_i xs hc
      obtain ⟨vs, h1, h2⟩ := s.cel n _ a hc ha
      refine ⟨?_, go "dict" (by simp) (by simp [tyN, hc]) (by simp only [isK, hc]; rw [if_neg (by decide), sy])⟩
      rw [show tyN S (.loc n) = "dict" by simp [tyN, hc]]
      exact .base (.dK h1)
    · rename_i xs hc
      obtain ⟨vs, h1, h2⟩ := s.cel n _ a hc ha
      refine ⟨?_, go "dict" (by simp) (by simp [tyN, hc]) (by simp only [isK, hc]; rw [if_neg (by decide), sy])⟩
      rw [show tyN S (.loc n) = "dict" by simp [tyN, hc]]
      exact .base (.dT h1)
    · cases hx
  | _ => cases hx
theorem isAny_ok (s : Sim k fl bs G m S H) {x : D} {v : V} (r : RV k G m x v) (hx : kindOk S x = true) : ∀ {ts : List D} {cs : List V}, RVs k G m ts cs → ts.all tyOkD = true →
    ∃ us, Paired ClsV cs us ∧ PySem.W.kitAny k.K (.type (tyN S x)) us = some (ts.any (isKD S x))
  | [], cs, rs, _ => ⟨[], by rw [rs.inv0]; exact .nil, rfl⟩
  | t :: ts, cs, rs, ht => by
    obtain ⟨c, q, rfl, g, z⟩ := rs.inv1
    simp only [List.all_cons, Bool.and_eq_true] at ht
    obtain ⟨us, h1, h2⟩ := isAny_ok s r hx z ht.2
    cases t with
    | ty n =>
      simp only [RV] at g
      subst g
      obtain ⟨_, h3⟩ := isK_ok s r (t := n) ht.1 hx
      refine ⟨.type n :: us, .cons (.ty n) h1, kitAny_cons h3 (fun hb => ?_) fun hb => ?_⟩
      · rw [List.any_cons, show isKD S x (.ty n) = isK S x n from rfl, hb, Bool.false_or]; exact h2
      · rw [List.any_cons, show isKD S x (.ty n) = isK S x n from rfl, hb, Bool.true_or]
    | _ => cases ht.1

/-! sorted -/
def rSortD (K : PySem.W.Frag) : List V → Hp → VK → Prop := fun vs H Q => ∃ (a : Addr) (bs : List (D × V)), vs = [.ref a] ∧ (SqL K H a (bs.map (·.2)) ∨ SqT K H a (bs.map (·.2))) ∧ (∀ b ∈ bs, Dp K H b.2 b.1.py) ∧
  W.AllAlike (bs.map fun b => b.1.py) ∧ W.Sortable (bs.map fun b => b.1.py) ∧ bs.length ≤ sizeLine ∧ (∀ b ∈ bs, b.1.py.depth ≤ 64) ∧
  ∀ p, H p = none → Q (.ref p) (upd H p (.lst ((bs.mergeSort (W.dataLe false fun b => b.1.py)).map (·.2))))
theorem each_of : ∀ {bs : List (D × V)} {us : List Value}, Vals (bs.map (·.2)) us → W.EachIs (fun u (b : D × V) => RelV b.2 u) us bs
  | [], us, r => by cases r; exact .nil
  | b :: bs, us, r => by cases r with | cons h t => exact .cons h (each_of t)
theorem vals_each : ∀ {bs : List (D × V)} {us : List Value}, W.EachIs (fun u (b : D × V) => RelV b.2 u) us bs → Vals (bs.map (·.2)) us
  | [], us, r => by cases r; exact .nil
  | b :: bs, us, r => by cases r with | cons h t => exact .cons h (vals_each t)
theorem cr_sortD (hr : X.A.units + 2 + 64 < cLine) : CallR X (.builtin "sorted") (rSortD X.K) := by
  intro pins s σ H vs us Q I r h
  obtain ⟨a, bs, rfl, hs, hd, hal, hso, hl, hdp, q⟩ := h
  rw [Vals.ref1 r]
  have key : ∀ {its : List Value}, Vals (bs.map (·.2)) its → W.EachIs (fun u (b : D × V) => RelV b.2 u) its bs ∧ W.EachIs (fun v (b : D × V) => ∃ as, Reads s.heap v b.1.py as) its bs := fun {its} rv => by
    have e1 := each_of rv
    refine ⟨e1, ?_⟩
    have : ∀ {bs : List (D × V)} {us : List Value}, (∀ b ∈ bs, Dp X.K H b.2 b.1.py) → W.EachIs (fun u (b : D × V) => RelV b.2 u) us bs → W.EachIs (fun v (b : D × V) => ∃ as, Reads s.heap v b.1.py as) us bs := by
      intro bs us hd e
      induction e with
      | nil => exact .nil
      | cons h t ih => exact .cons (Dp.reads I _ _ _ (hd _ (by simp)) h) (ih fun b hb => hd b (by simp [hb]))
    exact this hd e1
  have fin : ∀ {its out : List Value}, out.length = bs.length → W.EachIs (fun u (b : D × V) => RelV b.2 u) out (bs.mergeSort (W.dataLe false fun b => b.1.py)) → EP X pins σ Q (.ref (s.heap.objs.size + 1)) { s with heap := PyProof.Rows.sortedAll s.heap its (List.toArray out) } := fun {its out} ho eo => by
    obtain ⟨ep, he'⟩ := PyProof.Rows.sortedAll_at s.heap its out.toArray
    have rv' := vals_each eo
    refine ⟨.ref _, upd H (s.heap.objs.size + 1) (.lst ((bs.mergeSort (W.dataLe false fun b => b.1.py)).map (·.2))), I.laid (t' := s.toks) (fun _ _ => PyProof.Rows.sortedAll_old) (Nat.le_succ _) ⟨?_, out, ep, rv', he'⟩, rfl, q _ (I.hok.fresh (Nat.le_succ _))⟩
    rw [List.length_map, List.length_mergeSort]; exact hl
  rcases hs with hs | hs
  · obtain ⟨its, rv, pl, hz⟩ := I.list hs
    obtain ⟨e1, e2⟩ := key rv
    exact W.sorted_data (enc := fun b : D × V => b.1.py) pl.isList e1 e2 hal hso hl (fun b hb => Nat.lt_of_le_of_lt (Nat.add_le_add_left (hdp b hb) _) hr) fun out ho eo => fin ho eo
  · obtain ⟨its, rv, pl, hz⟩ := I.tuple hs
    obtain ⟨e1, e2⟩ := key rv
    exact sorted_dataT (enc := fun b : D × V => b.1.py) pl e1 e2 hal hso hl (fun b hb => Nat.lt_of_le_of_lt (Nat.add_le_add_left (hdp b hb) _) hr) fun out ho eo => fin ho eo
theorem RVs.zipped : ∀ {xs : List D} {vs : List V}, RVs k G m xs vs → (xs.zip vs).map (·.1) = xs ∧ (xs.zip vs).map (·.2) = vs ∧ ∀ b ∈ xs.zip vs, RV k G m b.1 b.2 ∧ b.1 ∈ xs
  | [], vs, r => by rw [r.inv0]; simp
  | x :: xs, vs, r => by
    obtain ⟨v, q, rfl, g, z⟩ := r.inv1
    obtain ⟨h1, h2, h3⟩ := RVs.zipped z
    refine ⟨by simp [h1], by simp [h2], fun b hb => ?_⟩
    rw [List.zip_cons_cons, List.mem_cons] at hb
    rcases hb with rfl | hb
    · exact ⟨g, by simp⟩
    · exact ⟨(h3 b hb).1, by simp [(h3 b hb).2]⟩
theorem RVs.of_pairs : ∀ {bs : List (D × V)}, (∀ b ∈ bs, RV k G m b.1 b.2) → RVs k G m (bs.map (·.1)) (bs.map (·.2))
  | [], _ => .nil
  | b :: bs, h => .cons (h b (by simp)) (RVs.of_pairs fun c hc => h c (by simp [hc]))
theorem pures_mem : ∀ {xs : List D}, D.pures xs = true → ∀ x ∈ xs, x.pure = true
  | x :: xs, h, y, hy => by
    simp only [D.pures, Bool.and_eq_true] at h
    rcases List.mem_cons.mp hy with rfl | hy
    · exact h.1
    · exact pures_mem h.2 y hy
theorem sort_ok (s : Sim k fl bs G m S H) {xs ys : List D} {a : Addr} {vs : List V} {Q : VK} (hs : SqL k.K H a vs ∨ SqT k.K H a vs) (r : RVs k G m xs vs) (e : sortD xs = some ys) (hQ : Wn k fl bs G m H S (fun G' m' H' u => RL k H G' m' H' (.fl ys) u) Q) : rSortD k.K [.ref a] H Q := by
  unfold sortD at e
  split at e
  · rename_i ho
    cases e
    unfold sortOk at ho
    simp only [Bool.and_eq_true, decide_eq_true_eq] at ho
    obtain ⟨⟨⟨⟨h1, h2⟩, h3⟩, h4⟩, h5⟩ := ho
    obtain ⟨z1, z2, z3⟩ := RVs.zipped r
    have hmap : (xs.zip vs).map (fun b => b.1.py) = xs.map D.py := by rw [show (fun b : D × V => b.1.py) = D.py ∘ (·.1) from rfl, ← List.map_map, z1]
    refine ⟨a, xs.zip vs, rfl, by rw [z2]; exact hs, fun b hb => Dp.of s.sub (pures_mem h1 _ (z3 b hb).2) (z3 b hb).1, ?_, ?_, ?_, ?_, ?_⟩
    · rw [hmap]
      intro d hd d' hd'
      obtain ⟨x, hx, rfl⟩ := List.mem_map.mp hd
      obtain ⟨x', hx', rfl⟩ := List.mem_map.mp hd'
      exact List.all_eq_true.mp (List.all_eq_true.mp h3 x hx) x' hx'
    · rw [hmap]
      rw [Bool.or_eq_true] at h5
      rcases h5 with h5 | h5
      · refine .inl fun d hd => ?_
        obtain ⟨x, hx, rfl⟩ := List.mem_map.mp hd
        have := List.all_eq_true.mp h5 x hx
        split at this
        · rename_i y r' hy
          exact ⟨y, r', hy⟩
        · cases this
      · refine .inr fun d hd => ?_
        obtain ⟨x, hx, rfl⟩ := List.mem_map.mp hd
        have := List.all_eq_true.mp h5 x hx
        split at this
        · cases this
        · cases this
        · rename_i q1 q2
          exact ⟨q2, q1⟩
    · have := congrArg List.length z1
      rw [List.length_map] at this
      rw [this]; exact h2
    · intro b hb
      have := List.all_eq_true.mp h4 b.1 (z3 b hb).2
      exact of_decide_eq_true this
    · have hm : ((xs.zip vs).mergeSort (W.dataLe false fun b => b.1.py)).map (·.1) = xs.mergeSort (W.dataLe false D.py) := by
        rw [List.map_mergeSort (r := W.dataLe false fun b : D × V => b.1.py) (s := W.dataLe false D.py) (f := (·.1)) (fun a _ b _ => rfl), z1]
      rw [← hm] at hQ
      exact new_lst s (RVs.of_pairs fun b hb => (z3 b (List.mem_mergeSort.mp hb)).1) hQ
  · cases e

/-! calls by a name -/
def Bf.val : Bf → Value
  | .len => .builtin "len" | .tuple => .type "tuple" | .list => .type "list" | .sorted => .builtin "sorted" | .sum => .builtin "sum" | .min => .builtin "min" | .max => .builtin "max"
  | .abs => .builtin "abs" | .int => .type "int" | .any => .builtin "any" | .all => .builtin "all" | .isinst => .builtin "isinstance" | .dict => .type "dict" | .set => .type "set"
def Bf.nm : Bf → Str
  | .len => "len" | .tuple => "tuple" | .list => "list" | .sorted => "sorted" | .sum => "sum" | .min => "min" | .max => "max"
  | .abs => "abs" | .int => "int" | .any => "any" | .all => "all" | .isinst => "isinstance" | .dict => "dict" | .set => "set"
theorem Bf.boot (f : Bf) : bootBuiltins f.nm = some f.val := by cases f <;> decide +kernel
theorem Bf.plain (f : Bf) : f.nm ≠ "__name__" ∧ (f.nm == ("__debug__" : Str)) = false := by cases f <;> decide +kernel
abbrev Gl' (k : Kx) (fl : List Str) (bs : List Nat) (r : List V → Hp → VK → Prop) (f : Sto → List D → Option Vl) : Prop :=
  ∀ (G : Hp) (m : List Addr) (S : Sto) (H : Hp) (xs : List D) (vs : List V) (z : Vl) (Q : VK), Sim k fl bs G m S H → RVs k G m xs vs → f S xs = some z → Wn k fl bs G m H S (fun G' m' H' u => RL k H G' m' H' z u) Q → r vs H Q
theorem dictCopy (I : ∀ (pins : List (Addr × Obj)) (s : Shared) (σ : L2.St) (H : Hp), True) : CallR X (.type "dict") (fun vs H Q => ∃ a ws, vs = [.ref a] ∧ H a = some (.dK ws) ∧ ∀ p, H p = none → Q (.ref p) (upd H p (.dK ws))) := by
  intro pins s σ H vs us Q I r h
  obtain ⟨a, ws, rfl, ha, q⟩ := h
  rw [Vals.ref1 r]
  exact d_copyOf I (.inl ha) fun p s' hp I' => ⟨.ref p, _, I', rfl, q p hp⟩
theorem b1_ok {r : List V → Hp → VK → Prop} {g : Sto → D → Option Vl} (h : ∀ (G : Hp) (m : List Addr) (S : Sto) (H : Hp) (x : D) (v : V) (z : Vl) (Q : VK), Sim k fl bs G m S H → RV k G m x v → g S x = some z → Wn k fl bs G m H S (fun G' m' H' u => RL k H G' m' H' z u) Q → r [v] H Q) :
    Gl' k fl bs r (fun S xs => b1 (g S) xs) := by
  intro G m S H xs vs z Q s rr e hQ
  cases xs with
  | nil => cases e
  | cons x xs =>
    cases xs with
    | cons => cases e
    | nil =>
      obtain ⟨y, q, rfl, rx, q0⟩ := rr.inv1
      rw [q0.inv0]
      exact h G m S H x y z Q s rx e hQ
theorem b2_ok {r : List V → Hp → VK → Prop} {g : Sto → D → D → Option Vl} (h : ∀ (G : Hp) (m : List Addr) (S : Sto) (H : Hp) (x y : D) (v w : V) (z : Vl) (Q : VK), Sim k fl bs G m S H → RV k G m x v → RV k G m y w → g S x y = some z → Wn k fl bs G m H S (fun G' m' H' u => RL k H G' m' H' z u) Q → r [v, w] H Q) :
    Gl' k fl bs r (fun S xs => b2 (g S) xs) := by
  intro G m S H xs vs z Q s rr e hQ
  cases xs with
  | nil => cases e
  | cons x xs =>
    cases xs with
    | nil => cases e
    | cons y xs =>
      cases xs with
      | cons => cases e
      | nil =>
        obtain ⟨v, q, rfl, rx, q0⟩ := rr.inv1
        obtain ⟨w, q, rfl, ry, q0⟩ := q0.inv1
        rw [q0.inv0]
        exact h G m S H x y v w z Q s rx ry e hQ
theorem i2_ok {f : Int → Int → Int} {x y : D} {z : Vl} (e : i2 f x y = some z) : ∃ i j, x = .int i ∧ y = .int j ∧ z = .d (.int (f i j)) := by
  cases x <;> cases y <;> simp only [i2, reduceCtorEq, Option.some.injEq] at e
  exact ⟨_, _, rfl, rfl, e.symm⟩
theorem RKs.length {κ : Type} : ∀ {kvs : List (κ × D)} {ws : List (κ × V)}, RKs k G m kvs ws → kvs.length = ws.length
  | [], ws, h => by rw [show ws = [] from h]; rfl
  | (a, b) :: q, ws, h => by
    obtain ⟨_, _, rfl, _, h⟩ := h
    simp [RKs.length h]
theorem bf_ok (f : Bf) (hK : k.K = X.K) (hc : X.calm = true) (hr : X.A.units + 2 + 64 < cLine) : ∃ r, CallR X f.val r ∧ Gl' k fl bs r (fun S xs => bfun f S xs) := by
  cases f with
  | len =>
    refine ⟨_, call_len_seq.or (call_len_str.or (call_lenD.or call_len_dT)), b1_ok fun G m S H x v z Q s rx e hQ => ?_⟩
    unfold bLen at e
    split at e
    · rename_i ys h1
      cases e
      obtain ⟨a, ws, rfl, h2, h3⟩ := seqOf_ok s rx h1
      exact .inl ⟨a, ws, rfl, hK ▸ h2, by rw [h3.length] at hQ; exact done_d s hQ RV.ofI⟩
    · split at e
      · rename_i z' _
        split at e
        · rename_i hz
          cases e
          rw [rx.str_inv]
          exact .inr (.inl ⟨z', rfl, hz, done_d s hQ RV.ofI⟩)
        · cases e
      · rename_i n _
        simp only [RV] at rx
        obtain ⟨a, rfl, ha⟩ := rx
        split at e
        · rename_i kvs hcc
          cases e
          obtain ⟨ws, h1, h2⟩ := s.cel n _ a hcc ha
          exact .inr (.inr (.inl ⟨a, ws, rfl, h1, by rw [RKs.length h2] at hQ; exact done_d s hQ RV.ofI⟩))
        · rename_i kvs hcc
          cases e
          obtain ⟨ws, h1, h2⟩ := s.cel n _ a hcc ha
          exact .inr (.inr (.inr ⟨a, ws, rfl, h1, by rw [RKs.length h2] at hQ; exact done_d s hQ RV.ofI⟩))
        · cases e
      · cases e
  | tuple =>
    refine ⟨_, call_tuple_of, b1_ok fun G m S H x v z Q s rx e hQ => ?_⟩
    unfold bTup at e
    split at e
    · rename_i ys h1
      cases e
      obtain ⟨a, ws, rfl, h2, h3⟩ := tupOf_ok s rx h1
      exact ⟨a, ws, rfl, .inr ⟨hK ▸ h2, done_d s hQ rx⟩⟩
    · split at e
      · rename_i ys h1
        cases e
        obtain ⟨a, ws, rfl, h2, h3⟩ := lstOf_ok s rx h1
        exact ⟨a, ws, rfl, .inl ⟨hK ▸ h2, new_tup s h3 hQ⟩⟩
      · cases e
  | list =>
    refine ⟨_, call_list_of, b1_ok fun G m S H x v z Q s rx e hQ => ?_⟩
    unfold bLst at e
    split at e
    · rename_i ys h1
      cases e
      obtain ⟨a, ws, rfl, h2, h3⟩ := seqOf_ok s rx h1
      exact ⟨a, ws, rfl, hK ▸ h2, new_lst s h3 hQ⟩
    · cases e
  | sorted =>
    refine ⟨_, cr_sortD hr, b1_ok fun G m S H x v z Q s rx e hQ => ?_⟩
    unfold bSort at e
    split at e
    · rename_i ys h1
      simp only [Option.map_eq_some_iff] at e
      obtain ⟨zs, e1, rfl⟩ := e
      obtain ⟨a, ws, rfl, h2, h3⟩ := seqOf_ok s rx h1
      exact hK ▸ sort_ok s h2 h3 e1 hQ
    · cases e
  | sum =>
    refine ⟨_, cr_sum hc, b1_ok fun G m S H x v z Q s rx e hQ => ?_⟩
    unfold bSum at e
    split at e
    · rename_i ns h1
      cases e
      simp only [Option.bind_eq_some_iff] at h1
      obtain ⟨ys, h1, h4⟩ := h1
      obtain ⟨a, ws, rfl, h2, h3⟩ := lstOf_ok s rx h1
      rw [intsOf_ok h3 h4] at h2
      exact ⟨a, ns, rfl, hK ▸ h2, done_d s hQ RV.ofI⟩
    · cases e
  | any =>
    refine ⟨_, cr_any hc, b1_ok fun G m S H x v z Q s rx e hQ => ?_⟩
    unfold bAny at e
    split at e
    · rename_i ns h1
      cases e
      simp only [Option.bind_eq_some_iff] at h1
      obtain ⟨ys, h1, h4⟩ := h1
      obtain ⟨a, ws, rfl, h2, h3⟩ := lstOf_ok s rx h1
      rw [blsOf_ok h3 h4] at h2
      exact ⟨a, ns, rfl, hK ▸ h2, done_d s hQ RV.ofB⟩
    · cases e
  | all =>
    refine ⟨_, cr_all hc, b1_ok fun G m S H x v z Q s rx e hQ => ?_⟩
    unfold bAll at e
    split at e
    · rename_i ns h1
      cases e
      simp only [Option.bind_eq_some_iff] at h1
      obtain ⟨ys, h1, h4⟩ := h1
      obtain ⟨a, ws, rfl, h2, h3⟩ := lstOf_ok s rx h1
      rw [blsOf_ok h3 h4] at h2
      exact ⟨a, ns, rfl, hK ▸ h2, done_d s hQ RV.ofB⟩
    · cases e
  | min =>
    refine ⟨_, call_min2 hc, b2_ok fun G m S H x y v w z Q s rx ry e hQ => ?_⟩
    obtain ⟨i, j, rfl, rfl, rfl⟩ := i2_ok e
    rw [rx.int_inv, ry.int_inv]
    exact ⟨i, j, rfl, done_d s hQ RV.ofI⟩
  | max =>
    refine ⟨_, call_max2 hc, b2_ok fun G m S H x y v w z Q s rx ry e hQ => ?_⟩
    obtain ⟨i, j, rfl, rfl, rfl⟩ := i2_ok e
    rw [rx.int_inv, ry.int_inv]
    exact ⟨i, j, rfl, done_d s hQ RV.ofI⟩
  | abs =>
    refine ⟨_, call_abs, b1_ok fun G m S H x v z Q s rx e hQ => ?_⟩
    cases x <;> simp only [bAbs, reduceCtorEq, Option.some.injEq] at e
    subst e
    rw [rx.int_inv]
    exact ⟨_, rfl, done_d s hQ RV.ofI⟩
  | int =>
    refine ⟨_, call_int1, b1_ok fun G m S H x v z Q s rx e hQ => ?_⟩
    cases x <;> simp only [bInt, reduceCtorEq, Option.some.injEq] at e
    · subst e
      rw [rx.bl_inv]
      exact .inr ⟨_, rfl, done_d s hQ RV.ofI⟩
    · subst e
      rw [rx.int_inv]
      exact .inl ⟨_, rfl, done_d s hQ RV.ofI⟩
  | isinst =>
    refine ⟨_, call_isi.or call_isiT, b2_ok fun G m S H x T v w z Q s rx ry e hQ => ?_⟩
    simp only [Option.map_eq_some_iff] at e
    obtain ⟨b, e, rfl⟩ := e
    cases T <;> simp only [isInst, reduceCtorEq] at e
    · rename_i t
      split at e
      · rename_i h
        cases e
        simp only [RV] at ry
        subst ry
        obtain ⟨h1, h2⟩ := isK_ok s rx h.1 h.2
        exact .inl ⟨v, .ty t, _, _, _, rfl, .ty t, hK ▸ h1, hK ▸ h2, done_d s hQ RV.ofB⟩
      · cases e
    · rename_i ts
      split at e
      · rename_i h
        cases e
        simp only [RV] at ry
        obtain ⟨a, cs, rfl, g, rc⟩ := ry
        obtain ⟨us, h1, h2⟩ := isAny_ok s rx h.1 rc h.2
        exact .inr ⟨v, a, cs, _, us, _, rfl, s.sub _ _ g, h1, hK ▸ (isK_ok s rx (t := "int") rfl h.1).1, hK ▸ h2, done_d s hQ RV.ofB⟩
      · cases e
  | dict =>
    refine ⟨_, dictCopy fun _ _ _ _ => trivial, b1_ok fun G m S H x v z Q s rx e hQ => ?_⟩
    cases x <;> simp only [bDict, reduceCtorEq] at e
    rename_i n
    simp only [RV] at rx
    obtain ⟨a, rfl, ha⟩ := rx
    split at e
    · rename_i kvs hcc
      cases e
      obtain ⟨ws, h1, h2⟩ := s.cel n _ a hcc ha
      exact ⟨a, ws, rfl, h1, fun p hp => hQ G m _ _ (s.laid hp).2 (s.laid hp).1 ⟨p, ws, rfl, hp, upd_same, s.gnone hp, s.no_m hp, h2⟩⟩
    · cases e
  | set => exact ⟨fun _ _ _ => False, fun _ _ _ _ _ _ _ _ _ h => h.elim, fun G m S H xs vs z Q s r e hQ => by simp [bfun] at e⟩
/-- a call of a built-in by its name -/
theorem se_bf {f : Bf} {e : Expr} {es : List Expr} {p pos : Pos} {g : En → Sto → Option (List D × Sto)} (hK : k.K = X.K) (hc : X.calm = true) (hr : X.A.units + 2 + 64 < cLine) (hg : Gl X f.nm) (hm : X.mg f.nm = none)
    (hs : (e :: es).all noStar = true) (h : SA k fl bs X (e :: es) g) :
    SE k fl bs X (.Call (.Name f.nm p) (e :: es) [] pos) (fun ρ S => (g ρ S).bind fun r => (bfun f r.2 r.1).map fun v => (v, r.2)) := by
  obtain ⟨t, pa, l⟩ := h
  obtain ⟨r, hcr, hgr⟩ := bf_ok (k := k) (fl := fl) (bs := bs) f hK hc hr
  have he : starEach (e :: es) X.env = (false, eval e X.env) :: starEach es X.env := star_no (by simp only [List.all_cons, Bool.and_eq_true] at hs; exact hs.1)
  have hpl : (backTo pos (starEach es X.env)).any (·.1) = false := by
    simp only [List.all_cons, Bool.and_eq_true] at hs
    have : ∀ es : List Expr, es.all noStar = true → (backTo pos (starEach es X.env)).any (·.1) = false := by
      intro es
      induction es with
      | nil => intro _; rfl
      | cons a as ih =>
        intro h
        simp only [List.all_cons, Bool.and_eq_true] at h
        rw [star_no h.1]
        show (false || (backTo pos (starEach as X.env)).any (·.1)) = false
        rw [ih h.2]
        rfl
    exact this es hs.2
  obtain ⟨hn, hdb⟩ := f.plain
  have fin : LE k fl bs (tCB r t) (fun ρ S => (g ρ S).bind fun r => (bfun f r.2 r.1).map fun v => (v, r.2)) := by
    intro G m ρ S σ H z S' Q s re e hQ
    simp only [Option.bind_eq_some_iff, Option.map_eq_some_iff, Prod.mk.injEq] at e
    obtain ⟨⟨xs, S1⟩, e1, v, e2, rfl, rfl⟩ := e
    refine l G m ρ S σ H xs S1 _ s re e1 fun G1 m1 vs H1 x1 s1 r1 => ?_
    exact hgr G1 m1 S1 H1 xs vs v Q s1 r1 e2 fun G2 m2 w H2 x2 s2 r2 => hQ G2 m2 w H2 (x1.trans x2) s2 (r2.back x1)
  have hv := f.boot
  cases hval : f.val with
  | builtin id =>
    rw [hval] at hcr hv
    exact ⟨_, pe_callB hcr hg hm hv pa hn hdb he hpl, fin⟩
  | type T =>
    rw [hval] at hcr hv
    exact ⟨_, pe_callTy hcr hg hm hv pa hn hdb he hpl, fin⟩
  | _ => cases f <;> cases hval
end
end EV
end
section
set_option maxRecDepth 100000
set_option autoImplicit false
/-! EV: methods of lists and dicts. -/
namespace EV
open PySem L2

section
variable {k : Kx} {fl : List Str} {bs : List Nat} {X : Cx} {G G' : Hp} {m m' : List Addr} {S S' : Sto} {H H' : Hp}
/-- what a method's name asks of the type that stands there -/
structure MtI (T : String) (name : Str) (id : String) : Prop where
  pa : PlainAttrs T
  slot : Slot T name id
  ty : typeOf (.builtin id) = pure (.type "method_descriptor")
def tMt (X : Cx) (name : Str) (to : TE) (t : TA) : TE := fun σ H Q => to σ H fun x H1 => ∃ T id, MtI T name id ∧ tyV X.K T x H1 ∧ t σ H1 fun xs H2 => ∃ r, MtR X id r ∧ r x xs H2 Q
theorem star_all {env : Env} {pos : Pos} : ∀ {es : List Expr}, es.all noStar = true → (backTo pos (starEach es env)).any (·.1) = false ∧ (backTo pos (starEach es env)).all (fun x => !x.1) = true
  | [], _ => ⟨rfl, rfl⟩
  | e :: es, h => by
    simp only [List.all_cons, Bool.and_eq_true] at h
    obtain ⟨h1, h2⟩ := star_all (env := env) (pos := pos) h.2
    rw [star_no h.1]
    exact ⟨by show (false || (backTo pos (starEach es env)).any (·.1)) = false; rw [h1]; rfl, by show (!false && (backTo pos (starEach es env)).all (fun x => !x.1)) = true; rw [h2]; rfl⟩
theorem pe_mt {o : Expr} {es : List Expr} {name : Str} {apos cpos : Pos} {to : TE} {t : TA} (ho : PE X o to) (ha : PA X es t) (hb : notSup o = true)
    (hline : (apos.endLine == cpos.line) = true) (hs : es.all noStar = true) (hl : es.length < 30) : PE X (.Call (.Attribute o name apos) es [] cpos) (tMt X name to t) := by
  cases es with
  | nil =>
    refine ⟨fun pins s σ H Q I h => ?_⟩
    refine wpAny_Call_method0_late (base_of hb _) hline (thn (ho.run pins s σ H _ I h) fun v s1 ⟨x, H1, I1, r1, T, id, mi, ty, q1⟩ => ?_)
    obtain ⟨h1, h2⟩ := tyV_is I1 r1 ty
    refine ⟨T, id, mi.pa, mi.slot, mi.ty, h1, h2, ?_⟩
    have hA := ha.run cpos pins s1 σ H1 _ I1 q1
    refine Calls.callWith_builtin rfl (FK.evalArgs_any (by rfl) ?_)
    exact thn hA fun us s2 ⟨vs, H2, I2, r2, r, hm, q2⟩ => hm pins s2 σ H2 x vs v us Q I2 r1 r2 q2
  | cons e es =>
    obtain ⟨z1, z2⟩ := star_all (env := X.env) (pos := cpos) hs
    have hs1 : starEach (e :: es) X.env = (false, eval e X.env) :: starEach es X.env := star_no (by simp only [List.all_cons, Bool.and_eq_true] at hs; exact hs.1)
    have hplain : (backTo cpos (starEach es X.env)).any (·.1) = false := (star_all (by simp only [List.all_cons, Bool.and_eq_true] at hs; exact hs.2)).1
    refine ⟨fun pins s σ H Q I h => ?_⟩
    refine wpAny_Call_method_late (base_of hb _) ?_ hline rfl (thn (ho.run pins s σ H _ I h) fun v s1 ⟨x, H1, I1, r1, T, id, mi, ty, q1⟩ => ?_)
    · rw [z2]
      simp only [Bool.true_and, Bool.and_eq_true, decide_eq_true_eq]
      exact ⟨rfl, by simpa using hl⟩
    · obtain ⟨h1, h2⟩ := tyV_is I1 r1 ty
      refine ⟨T, id, mi.pa, mi.slot, mi.ty, h1, h2, ?_⟩
      have hA := ha.run cpos pins s1 σ H1 _ I1 q1
      rw [hs1] at hA ⊢
      refine Calls.callWith_builtin (by show (false || (backTo cpos (starEach es X.env)).any (·.1)) = false; rw [hplain] <;> rfl) (Calls.evalArgs_plain ?_)
      exact thn hA fun us s2 ⟨vs, H2, I2, r2, r, hm, q2⟩ => hm pins s2 σ H2 x vs v us Q I2 r1 r2 q2
def rGet : V → List V → Hp → VK → Prop := fun x xs H Q => (∃ a y o, x = .ref a ∧ xs = [y] ∧ DGet H a y o ∧ Q (o.getD .non) H) ∨ ∃ a y d o, x = .ref a ∧ xs = [y, d] ∧ DGet H a y o ∧ Q (o.getD d) H
theorem mt_get (hu : X.A.units + 1 < cLine) : MtR X "dict.get" rGet := by
  intro pins s σ H x xs v us Q I rx rs h
  rcases h with ⟨a, y, o, rfl, rfl, g, q⟩ | ⟨a, y, d, o, rfl, rfl, g, q⟩
  · obtain ⟨u, rfl, ru⟩ := vals1 rs
    obtain rfl : v = Value.ref a := rx
    exact d_get1 hu I g ru fun w' s3 I3 rw' => ⟨_, H, I3, rw', q⟩
  · obtain ⟨u, w, rfl, ru, rw'⟩ := vals2 rs
    obtain rfl : v = Value.ref a := rx
    exact d_get2 hu I g ru rw' fun w' s3 I3 rw' => ⟨_, H, I3, rw', q⟩
def rDPop : V → List V → Hp → VK → Prop := fun x xs H Q => (∃ a q kvs v, x = .ref a ∧ xs = [kV q] ∧ H a = some (.dK kvs) ∧ valV kvs q = some v ∧ Q v (upd H a (.dK (dropK kvs q)))) ∨
  (∃ a q d kvs v, x = .ref a ∧ xs = [kV q, d] ∧ H a = some (.dK kvs) ∧ valV kvs q = some v ∧ Q v (upd H a (.dK (dropK kvs q)))) ∨
  ∃ a q d kvs, x = .ref a ∧ xs = [kV q, d] ∧ H a = some (.dK kvs) ∧ valV kvs q = none ∧ Q d H
theorem mt_dpop : MtR X "dict.pop" rDPop := by
  intro pins s σ H x xs v us Q I rx rs h
  rcases h with ⟨a, q, kvs, w, rfl, rfl, ha, hv, hq⟩ | ⟨a, q, d, kvs, w, rfl, rfl, ha, hv, hq⟩ | ⟨a, q, d, kvs, rfl, rfl, ha, hv, hq⟩
  · obtain ⟨u, rfl, ru⟩ := vals1 rs
    obtain rfl : v = Value.ref a := rx
    exact d_pop (more := []) I ha ru hv (.inl rfl) fun w' s3 I3 rw' => ⟨_, _, I3, rw', hq⟩
  · obtain ⟨u, z, rfl, ru, rz⟩ := vals2 rs
    obtain rfl : v = Value.ref a := rx
    exact d_pop (more := [z]) I ha ru hv (.inr ⟨z, rfl⟩) fun w' s3 I3 rw' => ⟨_, _, I3, rw', hq⟩
  · obtain ⟨u, z, rfl, ru, rz⟩ := vals2 rs
    obtain rfl : v = Value.ref a := rx
    exact d_popD I ha ru hv fun s3 I3 => ⟨_, _, I3, rz, hq⟩
def Bm.nm : Bm → Str
  | .append => "append" | .extend => "extend" | .pop => "pop" | .popAt => "pop" | .get => "get" | .items => "items" | .values => "values" | .clear => "clear"
theorem okIn_ok {b n : Nat} {d : D} (hb : ∀ b' ∈ bs, b' ≤ b) (h : okIn b n d = true) : ∀ b' ∈ bs, n < b' → d.under b' = true := by
  intro b' hb' hn
  unfold okIn at h
  rw [Bool.or_eq_true, decide_eq_true_eq] at h
  rcases h with h | h
  · exact D.under_mono (Nat.zero_le _) h
  · exact absurd (Nat.lt_of_lt_of_le hn (hb b' hb')) (Nat.not_lt.mpr h)
theorem unders_append {b : Nat} : ∀ {xs ys : List D}, D.unders b (xs ++ ys) = (D.unders b xs && D.unders b ys)
  | [], ys => by simp [D.unders]
  | x :: xs, ys => by simp [D.unders, unders_append (xs := xs) (ys := ys), Bool.and_assoc]
theorem unders_all {b : Nat} : ∀ {xs : List D}, D.unders b xs = xs.all (D.under b)
  | [] => rfl
  | x :: xs => by simp [D.unders, unders_all (xs := xs)]
theorem RKs.drop {κ : Type} [DecidableEq κ] : ∀ {kvs : List (κ × D)} {ws : List (κ × V)} (q : κ), RKs k G m kvs ws → RKs k G m (dropG kvs q) (dropK ws q)
  | [], ws, q, h => by rw [show ws = [] from h]; rfl
  | (p, x) :: kvs, ws, q, h => by
    obtain ⟨v, r, rfl, g, z⟩ := h
    have ih := RKs.drop q z
    unfold dropG dropK at ih ⊢
    by_cases hp : p = q
    · simpa [List.filter_cons, hp] using ih
    · simp only [List.filter_cons, ne_eq, hp, not_false_eq_true, decide_true, if_true]
      exact ⟨v, _, rfl, g, ih⟩
theorem RKs.put {κ : Type} [DecidableEq κ] {kvs : List (κ × D)} {ws : List (κ × V)} (q : κ) {d : D} {v : V} (h : RKs k G m kvs ws) (r : RV k G m d v) : RKs k G m (putG kvs q d) (putK ws q v) := by
  have any : ∀ {kvs : List (κ × D)} {ws : List (κ × V)}, RKs k G m kvs ws → kvs.any (fun kv => decide (kv.1 = q)) = ws.any (fun kv => decide (kv.1 = q)) := by
    intro kvs
    induction kvs with
    | nil => intro ws h; rw [show ws = [] from h]; rfl
    | cons p kvs ih => intro ws h; obtain ⟨p, x⟩ := p; obtain ⟨w, r, rfl, g, z⟩ := h; simp [ih z]
  have mp : ∀ {kvs : List (κ × D)} {ws : List (κ × V)}, RKs k G m kvs ws → RKs k G m (kvs.map fun kv => if kv.1 = q then (kv.1, d) else kv) (ws.map fun kv => if kv.1 = q then (kv.1, v) else kv) := by
    intro kvs
    induction kvs with
    | nil => intro ws h; rw [show ws = [] from h]; rfl
    | cons p kvs ih =>
      intro ws h
      obtain ⟨p, x⟩ := p
      obtain ⟨w, r', rfl, g, z⟩ := h
      simp only [List.map_cons]
      by_cases hp : p = q
      · rw [if_pos hp, if_pos hp]; exact ⟨v, _, rfl, r, ih z⟩
      · rw [if_neg hp, if_neg hp]; exact ⟨w, _, rfl, g, ih z⟩
  have ap : ∀ {kvs : List (κ × D)} {ws : List (κ × V)}, RKs k G m kvs ws → RKs k G m (kvs ++ [(q, d)]) (ws ++ [(q, v)]) := by
    intro kvs
    induction kvs with
    | nil => intro ws h; rw [show ws = [] from h]; exact ⟨v, [], rfl, r, rfl⟩
    | cons p kvs ih =>
      intro ws h
      obtain ⟨p, x⟩ := p
      obtain ⟨w, r', rfl, g, z⟩ := h
      exact ⟨w, _, rfl, g, ih z⟩
  unfold putG putK
  rw [any h]
  split
  · exact mp h
  · exact ap h
theorem drop_under {κ : Type} [DecidableEq κ] {b : Nat} {kvs : List (κ × D)} (q : κ) (h : (kvs.all fun kv => kv.2.under b) = true) : ((dropG kvs q).all fun kv => kv.2.under b) = true := by
  rw [List.all_eq_true] at h ⊢
  exact fun x hx => h x (List.mem_filter.mp hx).1
theorem put_under {κ : Type} [DecidableEq κ] {b : Nat} {kvs : List (κ × D)} (q : κ) {d : D} (h : (kvs.all fun kv => kv.2.under b) = true) (hd : d.under b = true) : ((putG kvs q d).all fun kv => kv.2.under b) = true := by
  rw [List.all_eq_true] at h ⊢
  intro x hx
  unfold putG at hx
  split at hx
  · obtain ⟨y, hy, rfl⟩ := List.mem_map.mp hx
    by_cases hp : y.1 = q
    · rw [if_pos hp]; exact hd
    · rw [if_neg hp]; exact h y hy
  · rcases List.mem_append.mp hx with hx | hx
    · exact h x hx
    · rw [List.mem_singleton] at hx; subst hx; exact hd

/-- a list's method -/
theorem lmeth_ok {b n : Nat} (hb : ∀ b' ∈ bs, b' ≤ b) {mm : Bm} {ys xs : List D} {z : Vl} (e : lmeth b n mm S ys xs = some (z, S')) : ∃ id, MtI "list" mm.nm id ∧ ∃ r, MtR X id r ∧
    ∀ (G : Hp) (m : List Addr) (H : Hp) (a : Addr) (vs : List V) (Q : VK), Sim k fl bs G m S H → S[n]? = some (.lst ys) → m[n]? = some a → RVs k G m xs vs →
      Wn k fl bs G m H S' (fun G' m' H' u => RL k H G' m' H' z u) Q → r (.ref a) vs H Q := by
  cases mm with
  | append =>
    match xs, e with
    | [], e => cases e
    | _ :: _ :: _, e => cases e
    | [x], e =>
      refine ⟨"list.append", ⟨PySem.F.plainAttrs_list, PySem.F.slot_list_append, PySem.F.type_list_append⟩, _, mt_append, fun G m H a vs Q s hn ha r hQ => ?_⟩
      obtain ⟨v, q, rfl, rx, q0⟩ := r.inv1
      rw [q0.inv0]
      simp only [lmeth, mApp] at e
      split at e
      · rename_i h
        simp only [Option.some.injEq, Prod.mk.injEq] at e
        obtain ⟨rfl, rfl⟩ := e
        obtain ⟨ws, h1, h2⟩ := s.cel n _ a hn ha
        refine ⟨a, ws, v, rfl, rfl, h1, by rw [← h2.length]; exact h.2, ?_⟩
        refine (fun wr => hQ G m _ _ wr.2 wr.1 (show RV k G m .non .non by simp only [RV])) (s.write (o := .lst (ws ++ [v])) (c' := .lst (ys ++ [x])) ha hn ⟨ws ++ [v], upd_same, h2.append (.one rx)⟩ fun b' hb' hnb => ?_)
        show D.unders b' (ys ++ [x]) = true
        rw [unders_append]
        have := (s.lo b' hb').2 n _ hnb hn
        simp only [Cell.under] at this
        simp [this, D.unders, okIn_ok hb h.1 b' hb' hnb]
      · cases e
  | extend =>
    match xs, e with
    | [], e => cases e
    | _ :: _ :: _, e => cases e
    | [x], e =>
      refine ⟨"list.extend", ⟨PySem.F.plainAttrs_list, PySem.F.slot_list_extend, PySem.F.type_list_extend⟩, _, mt_extend, fun G m H a vs Q s hn ha r hQ => ?_⟩
      obtain ⟨v, q, rfl, rx, q0⟩ := r.inv1
      rw [q0.inv0]
      simp only [lmeth, mExt] at e
      split at e
      · rename_i zs hz
        split at e
        · rename_i h
          simp only [Option.some.injEq, Prod.mk.injEq] at e
          obtain ⟨rfl, rfl⟩ := e
          obtain ⟨ws, h1, h2⟩ := s.cel n _ a hn ha
          obtain ⟨c, us, rfl, h3, h4⟩ := lsmOf_ok s rx hz
          refine ⟨a, c, ws, us, rfl, rfl, h1, h3, by rw [← h2.length, ← h4.length]; exact h.2, ?_⟩
          refine (fun wr => hQ G m _ _ wr.2 wr.1 (show RV k G m .non .non by simp only [RV])) (s.write (o := .lst (ws ++ us)) (c' := .lst (ys ++ zs)) ha hn ⟨ws ++ us, upd_same, h2.append h4⟩ fun b' hb' hnb => ?_)
          show D.unders b' (ys ++ zs) = true
          rw [unders_append]
          have := (s.lo b' hb').2 n _ hnb hn
          simp only [Cell.under] at this
          rw [this, Bool.true_and, unders_all, List.all_eq_true]
          exact fun y hy => okIn_ok hb (List.all_eq_true.mp h.1 y hy) b' hb' hnb
        · cases e
      · cases e
  | pop =>
    match xs, e with
    | _ :: _, e => cases e
    | [], e =>
      refine ⟨"list.pop", ⟨PySem.F.plainAttrs_list, PySem.F.slot_list_pop, PySem.F.type_list_pop⟩, _, mt_pop, fun G m H a vs Q s hn ha r hQ => ?_⟩
      rw [r.inv0]
      simp only [lmeth, mPop] at e
      split at e
      · rename_i y hy
        simp only [Option.some.injEq, Prod.mk.injEq] at e
        obtain ⟨rfl, rfl⟩ := e
        obtain ⟨ws, h1, h2⟩ := s.cel n _ a hn ha
        obtain ⟨w, e1, rw'⟩ := h2.get hy
        have hd : RVs k G m ys.dropLast ws.dropLast := by
          rw [List.dropLast_eq_take, List.dropLast_eq_take, h2.length]
          exact h2.take _
        refine ⟨a, ws, w, rfl, rfl, h1, by rw [← h2.length]; exact e1, ?_⟩
        refine (fun wr => hQ G m _ _ wr.2 wr.1 rw') (s.write (o := .lst ws.dropLast) (c' := .lst ys.dropLast) ha hn ⟨ws.dropLast, upd_same, hd⟩ fun b' hb' hnb => ?_)
        show D.unders b' ys.dropLast = true
        have := (s.lo b' hb').2 n _ hnb hn
        simp only [Cell.under] at this
        rw [unders_all] at this ⊢
        rw [List.all_eq_true] at this ⊢
        exact fun y hy => this y (List.dropLast_subset ys hy)
      · cases e
  | _ => cases e
theorem dget_some {c : Cell} {y : D} {o : Option D} (e : dget c y = some o) : (∃ kvs, c = .dK kvs) ∨ ∃ kvs, c = .dT kvs := by
  cases c with
  | dK kvs => exact .inl ⟨kvs, rfl⟩
  | dT kvs => exact .inr ⟨kvs, rfl⟩
  | _ => simp [dget] at e
/-- a dict's method -/
theorem dmeth_ok {n : Nat} (hu : X.A.units + 1 < cLine) {mm : Bm} {c : Cell} {xs : List D} {z : Vl} (e : dmeth n mm S c xs = some (z, S')) : ∃ id, MtI "dict" mm.nm id ∧ ∃ r, MtR X id r ∧
    ∀ (G : Hp) (m : List Addr) (H : Hp) (a : Addr) (vs : List V) (Q : VK), Sim k fl bs G m S H → S[n]? = some c → m[n]? = some a → RVs k G m xs vs →
      Wn k fl bs G m H S' (fun G' m' H' u => RL k H G' m' H' z u) Q → r (.ref a) vs H Q := by
  cases mm with
  | get =>
    match xs, e with
    | [], e => cases e
    | _ :: _ :: _ :: _, e => cases e
    | [x], e =>
      refine ⟨"dict.get", ⟨PySem.F.plainAttrs_dict, PySem.F.slot_dict_get, PySem.F.type_dict_get⟩, _, mt_get hu, fun G m H a vs Q s hn ha r hQ => ?_⟩
      simp only [dmeth, Option.map_eq_some_iff, Prod.mk.injEq] at e
      obtain ⟨o, e1, rfl, rfl⟩ := e
      obtain ⟨v, q, rfl, rx, q0⟩ := r.inv1
      rw [q0.inv0]
      obtain ⟨o', g, ro⟩ := dget_ok s hn ha rx e1
      refine .inl ⟨a, v, o', rfl, rfl, g, ?_⟩
      cases o with
      | none => rw [show o' = none from ro]; exact done_d s hQ (by simp only [RV, Option.getD])
      | some d => obtain ⟨u, rfl, ru⟩ := ro; exact done_d s hQ ru
    | [x, y], e =>
      refine ⟨"dict.get", ⟨PySem.F.plainAttrs_dict, PySem.F.slot_dict_get, PySem.F.type_dict_get⟩, _, mt_get hu, fun G m H a vs Q s hn ha r hQ => ?_⟩
      simp only [dmeth, Option.map_eq_some_iff, Prod.mk.injEq] at e
      obtain ⟨o, e1, rfl, rfl⟩ := e
      obtain ⟨v, q, rfl, rx, q0⟩ := r.inv1
      obtain ⟨w, q, rfl, ry, q0⟩ := q0.inv1
      rw [q0.inv0]
      obtain ⟨o', g, ro⟩ := dget_ok s hn ha rx e1
      refine .inr ⟨a, v, w, o', rfl, rfl, g, ?_⟩
      cases o with
      | none => rw [show o' = none from ro]; exact done_d s hQ ry
      | some d => obtain ⟨u, rfl, ru⟩ := ro; exact done_d s hQ ru
  | pop =>
    match xs, e with
    | [], e => cases e
    | _ :: _ :: _ :: _, e => cases e
    | [x], e =>
      refine ⟨"dict.pop", ⟨PySem.F.plainAttrs_dict, PySem.F.slot_dict_pop, PySem.F.type_dict_pop⟩, _, mt_dpop, fun G m H a vs Q s hn ha r hQ => ?_⟩
      cases c with
      | dK kvs =>
        simp only [dmeth, dPop1, Option.bind_eq_some_iff, Option.map_eq_some_iff, Prod.mk.injEq] at e
        obtain ⟨q, e1, d, e2, rfl, rfl⟩ := e
        obtain ⟨v, q', rfl, rx, q0⟩ := r.inv1
        rw [q0.inv0, key_ok rx e1]
        obtain ⟨ws, h1, h2⟩ := s.cel n _ a hn ha
        have hv := val_ok q h2
        rw [e2] at hv
        obtain ⟨u, h3, h4⟩ := hv
        refine .inl ⟨a, q, ws, u, rfl, rfl, h1, h3, ?_⟩
        refine (fun wr => hQ G m _ _ wr.2 wr.1 h4) (s.write (o := .dK (dropK ws q)) (c' := .dK (dropG kvs q)) ha hn ⟨_, upd_same, h2.drop q⟩ fun b' hb' hnb => ?_)
        exact drop_under q ((s.lo b' hb').2 n _ hnb hn)
      | _ => cases e
    | [x, y], e =>
      refine ⟨"dict.pop", ⟨PySem.F.plainAttrs_dict, PySem.F.slot_dict_pop, PySem.F.type_dict_pop⟩, _, mt_dpop, fun G m H a vs Q s hn ha r hQ => ?_⟩
      cases c with
      | dK kvs =>
        simp only [dmeth, dPop2, Option.map_eq_some_iff] at e
        obtain ⟨q, e1, e2⟩ := e
        obtain ⟨v, q', rfl, rx, q0⟩ := r.inv1
        obtain ⟨w, q'', rfl, ry, q0⟩ := q0.inv1
        rw [q0.inv0, key_ok rx e1]
        obtain ⟨ws, h1, h2⟩ := s.cel n _ a hn ha
        have hv := val_ok q h2
        split at e2
        · rename_i d hd
          simp only [Prod.mk.injEq] at e2
          obtain ⟨rfl, rfl⟩ := e2
          rw [hd] at hv
          obtain ⟨u, h3, h4⟩ := hv
          refine .inr (.inl ⟨a, q, w, ws, u, rfl, rfl, h1, h3, ?_⟩)
          refine (fun wr => hQ G m _ _ wr.2 wr.1 h4) (s.write (o := .dK (dropK ws q)) (c' := .dK (dropG kvs q)) ha hn ⟨_, upd_same, h2.drop q⟩ fun b' hb' hnb => ?_)
          exact drop_under q ((s.lo b' hb').2 n _ hnb hn)
        · rename_i hd
          simp only [Prod.mk.injEq] at e2
          obtain ⟨rfl, rfl⟩ := e2
          rw [hd] at hv
          exact .inr (.inr ⟨a, q, w, ws, rfl, rfl, h1, hv, done_d s hQ ry⟩)
      | _ => cases e
  | _ => cases e
/-- a method of a list or a dict -/
theorem se_bm {b : Nat} {mm : Bm} {o : Expr} {es : List Expr} {apos cpos : Pos} {fo : En → Sto → Rd} {g : En → Sto → Option (List D × Sto)} (hK : k.K = X.K) (hu : Ru X) (hb : ∀ b' ∈ bs, b' ≤ b) (ho : SD k fl bs X o fo) (ha : SA k fl bs X es g)
    (hsup : notSup o = true) (hline : (apos.endLine == cpos.line) = true) (hs : es.all noStar = true) (hl : es.length < 30) :
    SE k fl bs X (.Call (.Attribute o mm.nm apos) es [] cpos) (fun ρ S => (fo ρ S).bind fun r => (mkind r.2 r.1).bind fun kd => (g ρ r.2).bind fun q => bmeth b mm kd q.2 r.1 q.1) := by
  obtain ⟨to, po, lo⟩ := ho
  obtain ⟨t, pa, la⟩ := ha
  refine ⟨_, pe_mt po pa hsup hline hs hl, fun G m ρ S σ H z S' Q s re e hQ => ?_⟩
  simp only [Option.bind_eq_some_iff] at e
  obtain ⟨⟨x, S1⟩, e1, kd, e2, ⟨xs, S2⟩, e3, e4⟩ := e
  refine lo G m ρ S σ H x S1 _ s re e1 fun G1 m1 v H1 x1 s1 r1 => ?_
  cases x with
  | loc n =>
    have r1' : RV k G1 m1 (.loc n) v := r1
    simp only [RV] at r1'
    obtain ⟨a, rfl, hm⟩ := r1'
    simp only [bmeth] at e4
    split at e4
    · rename_i ys hn
      split at e4
      · rename_i hk
        subst hk
        obtain ⟨id, mi, r, hr, hgo⟩ := lmeth_ok (X := X) (k := k) (fl := fl) hb e4
        refine ⟨"list", id, mi, ?_, ?_⟩
        · simp only [mkind] at e2
          split at e2
          · rename_i xs' hn'
            obtain ⟨ws, h1, _⟩ := s1.cel n _ a hn' hm
            exact .inl ⟨rfl, ws, SqL.of h1⟩
          · cases e2
          · cases e2
          · cases e2
        · refine la G1 m1 ρ S1 σ H1 xs S2 _ s1 (re.ext x1) e3 fun G2 m2 vs H2 x2 s2 r2 => ⟨r, hr, ?_⟩
          exact hgo G2 m2 H2 a vs Q s2 hn (x2.at hm) r2 fun G3 m3 w H3 x3 s3 r3 => hQ G3 m3 w H3 (x1.trans (x2.trans x3)) s3 (r3.back (x1.trans x2))
      · cases e4
    · rename_i kvs hn
      split at e4
      · rename_i hk
        subst hk
        obtain ⟨id, mi, r, hr, hgo⟩ := dmeth_ok (X := X) (k := k) (fl := fl) (bs := bs) (Nat.lt_of_le_of_lt (Nat.add_le_add_left (by decide : 1 ≤ 64) _) hu) e4
        refine ⟨"dict", id, mi, ?_, ?_⟩
        · simp only [mkind] at e2
          split at e2
          · cases e2
          · rename_i xs' hn'
            obtain ⟨ws, h1, _⟩ := s1.cel n _ a hn' hm
            exact .inr (.inr (.inl ⟨rfl, .inl ⟨ws, h1⟩⟩))
          · rename_i xs' hn'
            obtain ⟨ws, h1, _⟩ := s1.cel n _ a hn' hm
            exact .inr (.inr (.inl ⟨rfl, .inr ⟨ws, h1⟩⟩))
          · cases e2
        · refine la G1 m1 ρ S1 σ H1 xs S2 _ s1 (re.ext x1) e3 fun G2 m2 vs H2 x2 s2 r2 => ⟨r, hr, ?_⟩
          exact hgo G2 m2 H2 a vs Q s2 hn (x2.at hm) r2 fun G3 m3 w H3 x3 s3 r3 => hQ G3 m3 w H3 (x1.trans (x2.trans x3)) s3 (r3.back (x1.trans x2))
      · cases e4
    · rename_i kvs hn
      split at e4
      · rename_i hk
        subst hk
        obtain ⟨id, mi, r, hr, hgo⟩ := dmeth_ok (X := X) (k := k) (fl := fl) (bs := bs) (Nat.lt_of_le_of_lt (Nat.add_le_add_left (by decide : 1 ≤ 64) _) hu) e4
        refine ⟨"dict", id, mi, ?_, ?_⟩
        · simp only [mkind] at e2
          split at e2
          · cases e2
          · rename_i xs' hn'
            obtain ⟨ws, h1, _⟩ := s1.cel n _ a hn' hm
            exact .inr (.inr (.inl ⟨rfl, .inl ⟨ws, h1⟩⟩))
          · rename_i xs' hn'
            obtain ⟨ws, h1, _⟩ := s1.cel n _ a hn' hm
            exact .inr (.inr (.inl ⟨rfl, .inr ⟨ws, h1⟩⟩))
          · cases e2
        · refine la G1 m1 ρ S1 σ H1 xs S2 _ s1 (re.ext x1) e3 fun G2 m2 vs H2 x2 s2 r2 => ⟨r, hr, ?_⟩
          exact hgo G2 m2 H2 a vs Q s2 hn (x2.at hm) r2 fun G3 m3 w H3 x3 s3 r3 => hQ G3 m3 w H3 (x1.trans (x2.trans x3)) s3 (r3.back (x1.trans x2))
      · cases e4
    · cases e4
  | _ => cases e4
end
end EV
end
section
set_option maxRecDepth 100000
set_option autoImplicit false
/-! EV: targets, what a loop walks, comprehensions, loops. -/
namespace EV
open PySem L2

section
variable {k : Kx} {fl : List Str} {bs : List Nat} {X : Cx} {G G' : Hp} {m m' : List Addr} {S S' : Sto} {H H' : Hp}

/-! targets -/
def LG (k : Kx) (fl : List Str) (bs : List Nat) (sl : List Nat) (g : TG) (f : D → En → Sto → Option (En × Sto)) : Prop :=
  ∀ (G : Hp) (m : List Addr) (ρ : En) (S : Sto) (σ : L2.St) (H : Hp) (d : D) (v : V) (ρ' : En) (S' : Sto) (Q : L2.St → Hp → Prop), Sim k fl bs G m S H → RE k G m ρ σ → RV k G m d v → f d ρ S = some (ρ', S') →
    (∀ (G' : Hp) (m' : List Addr) (σ' : L2.St) (H' : Hp), Ext G m H G' m' H' → Sim k fl bs G' m' S' H' → RE k G' m' ρ' σ' → (∀ vs : List Nat, (∀ i ∈ sl, i ∈ vs) → L2.wipe σ' vs = L2.wipe σ vs) → Q σ' H') → g v σ H Q
def LGs (k : Kx) (fl : List Str) (bs : List Nat) (sl : List Nat) (g : TGs) (f : List D → En → Sto → Option (En × Sto)) : Prop :=
  ∀ (G : Hp) (m : List Addr) (ρ : En) (S : Sto) (σ : L2.St) (H : Hp) (d : List D) (v : List V) (ρ' : En) (S' : Sto) (Q : L2.St → Hp → Prop), Sim k fl bs G m S H → RE k G m ρ σ → RVs k G m d v → f d ρ S = some (ρ', S') →
    (∀ (G' : Hp) (m' : List Addr) (σ' : L2.St) (H' : Hp), Ext G m H G' m' H' → Sim k fl bs G' m' S' H' → RE k G' m' ρ' σ' → (∀ vs : List Nat, (∀ i ∈ sl, i ∈ vs) → L2.wipe σ' vs = L2.wipe σ vs) → Q σ' H') → g v σ H Q
def SG (k : Kx) (fl : List Str) (bs : List Nat) (X : Cx) (sl : List Nat) (e : Expr) (f : D → En → Sto → Option (En × Sto)) : Prop := ∃ g, PG X e g ∧ LG k fl bs sl g f
def SGs (k : Kx) (fl : List Str) (bs : List Nat) (X : Cx) (sl : List Nat) (es : List Expr) (f : List D → En → Sto → Option (En × Sto)) : Prop := ∃ g, PGs X es g ∧ LGs k fl bs sl g f
theorem wipe_set {σ : L2.St} {i : Nat} {x : Option V} : ∀ {vs : List Nat}, i ∈ vs → L2.wipe (σ.set i x) vs = L2.wipe σ vs := by
  have comm : ∀ (σ : L2.St) (vs : List Nat) (i : Nat) (x : Option V), i ∉ vs → L2.wipe (σ.set i x) vs = (L2.wipe σ vs).set i x := by
    intro σ vs
    induction vs with
    | nil => intro i x _; rfl
    | cons v vs ih =>
      intro i x h
      have h1 : i ≠ v := fun z => h (by simp [z])
      have h2 : i ∉ vs := fun z => h (by simp [z])
      show (L2.wipe (σ.set i x) vs).set v none = ((L2.wipe σ vs).set v none).set i x
      rw [ih i x h2, List.set_comm _ _ h1]
  intro vs
  induction vs with
  | nil => intro h; cases h
  | cons v vs ih =>
    intro h
    show (L2.wipe (σ.set i x) vs).set v none = (L2.wipe σ vs).set v none
    by_cases hm : i ∈ vs
    · rw [ih hm]
    · have : i = v := by
        rcases List.mem_cons.mp h with h | h
        · exact h
        · exact absurd h hm
      subst this
      rw [comm _ _ _ _ hm, List.set_set]
theorem sg_nm {i : Nat} {x : Str} {pos : Pos} (hN : X.N.Nodup) (hi : X.N[i]? = some x) (hx : Loc X.env.scope x) (hf : X.fn x = true ∨ X.env.scope.names.lookup x = some .local) :
    SG k fl bs X [i] (.Name x pos) (fun d ρ S => if i < ρ.length then some (ρ.set i (some d), S) else none) := by
  refine ⟨_, pg_name hN hi hx hf, fun G m ρ S σ H d v ρ' S' Q s re rv e hQ => ?_⟩
  simp only at e
  split at e
  · simp only [Option.some.injEq, Prod.mk.injEq] at e
    obtain ⟨rfl, rfl⟩ := e
    exact hQ G m _ H (Ext.refl _ _ _) s (re.set rv) fun vs h => wipe_set (h i (by simp))
  · cases e
theorem sgs_nil : SGs k fl bs X [] [] (fun ds ρ S => match ds with | [] => some (ρ, S) | _ => none) := by
  refine ⟨_, pgs_nil, fun G m ρ S σ H d v ρ' S' Q s re rv e hQ => ?_⟩
  cases d with
  | nil =>
    simp only [Option.some.injEq, Prod.mk.injEq] at e
    obtain ⟨rfl, rfl⟩ := e
    exact ⟨rv.inv0, hQ G m σ H (Ext.refl _ _ _) s re fun _ _ => rfl⟩
  | cons => cases e
theorem assign_hs {e : Expr} {es : List Expr} {env : Env} (h : noStar e = true) : (assignEach (e :: es) env).map (·.2) = assign e env :: (assignEach es env).map (·.2) := by
  cases e <;> first | rfl | cases h
theorem assign_one {e : Expr} {env : Env} (h : noStar e = true) : (assignEach [e] env).map (·.2) = [assign e env] := assign_hs h
theorem sgs_cons {sl sls : List Nat} {e : Expr} {es : List Expr} {f : D → En → Sto → Option (En × Sto)} {g : List D → En → Sto → Option (En × Sto)} (hn : noStar e = true) (h : SG k fl bs X sl e f) (hr : SGs k fl bs X sls es g) :
    SGs k fl bs X (sl ++ sls) (e :: es) (fun ds ρ S => match ds with | d :: ds => (f d ρ S).bind fun r => g ds r.1 r.2 | [] => none) := by
  obtain ⟨t, p, l⟩ := h
  obtain ⟨u, p2, l2⟩ := hr
  refine ⟨_, pgs_cons p p2 (assign_hs hn), fun G m ρ S σ H d v ρ' S' Q s re rv e hQ => ?_⟩
  cases d with
  | nil => cases e
  | cons d ds =>
    simp only [Option.bind_eq_some_iff] at e
    obtain ⟨⟨ρ1, S1⟩, e1, e2⟩ := e
    obtain ⟨y, r, rfl, ry, rr⟩ := rv.inv1
    refine ⟨y, r, rfl, l G m ρ S σ H d y ρ1 S1 _ s re ry e1 fun G1 m1 σ1 H1 x1 s1 re1 w1 => ?_⟩
    refine l2 G1 m1 ρ1 S1 σ1 H1 ds r ρ' S' Q s1 re1 (rr.ext x1) e2 fun G2 m2 σ2 H2 x2 s2 re2 w2 => ?_
    exact hQ G2 m2 σ2 H2 (x1.trans x2) s2 re2 fun vs hv => (w2 vs fun i hi => hv i (List.mem_append_right _ hi)).trans (w1 vs fun i hi => hv i (List.mem_append_left _ hi))
theorem noStar_len {env : Env} : ∀ {es : List Expr}, es.all noStar = true → (assignEach es env).length = es.length ∧ (assignEach es env).findIdx? (·.1) = none
  | [], _ => ⟨rfl, rfl⟩
  | e :: es, h => by
    simp only [List.all_cons, Bool.and_eq_true] at h
    obtain ⟨h1, h2⟩ := noStar_len (env := env) h.2
    have : assignEach (e :: es) env = (false, assign e env) :: assignEach es env := by
      have h0 := h.1
      cases e <;> first | rfl | cases h0
    rw [this]
    exact ⟨by simp [h1], by simp [List.findIdx?_cons, h2]⟩
theorem sg_tup {sl : List Nat} {es : List Expr} {n : Nat} {pos : Pos} {f : List D → En → Sto → Option (En × Sto)} (hK : k.K = X.K) (hc : X.calm = true) (hn : es.all noStar = true) (h : SGs k fl bs X sl es f)
    (hlen : ∀ ds ρ S r, f ds ρ S = some r → ds.length = es.length) :
    SG k fl bs X sl (.Tuple es n pos) (fun d ρ S => (tupOf d).bind fun xs => f xs ρ S) := by
  obtain ⟨g, p, l⟩ := h
  obtain ⟨h1, h2⟩ := noStar_len (env := X.env) hn
  refine ⟨_, pg_tup hc p h1 h2, fun G m ρ S σ H d v ρ' S' Q s re rv e hQ => ?_⟩
  simp only [Option.bind_eq_some_iff] at e
  obtain ⟨xs, e1, e2⟩ := e
  obtain ⟨a, vs, rfl, q1, q2⟩ := tupOf_ok s rv e1
  exact ⟨a, vs, rfl, hK ▸ q1, by rw [← q2.length]; exact hlen _ _ _ _ e2, l G m ρ S σ H xs vs ρ' S' Q s re q2 e2 hQ⟩
/-- a[i] = v by values -/
def rSetD : V → V → V → Hp → (Hp → Prop) → Prop := fun o i v H Q => ∃ a H', o = .ref a ∧ DPut H a i v H' ∧ Q H'
theorem set_dict (hu : X.A.units + 1 < cLine) : PSet X rSetD := by
  intro pins s σ H o i v ov iv u Q I ro ri rv h
  obtain ⟨a, H', rfl, g, q⟩ := h
  obtain rfl : ov = Value.ref a := ro
  exact d_setItem hu I g ri rv fun s4 I4 => ⟨H', I4, q⟩
theorem PSet.or {t t' : TSet} (h : PSet X t) (h' : PSet X t') : PSet X (fun o i v H Q => t o i v H Q ∨ t' o i v H Q) := by
  intro pins s σ H o i v ov iv u Q I ro ri rv q
  rcases q with q | q
  · exact h pins s σ H o i v ov iv u Q I ro ri rv q
  · exact h' pins s σ H o i v ov iv u Q I ro ri rv q
theorem setIx_ok {b : Nat} (hb : ∀ b' ∈ bs, b' ≤ b) (s : Sim k fl bs G m S H) {x y d : D} {v w u : V} {Q : Hp → Prop} (rx : RV k G m x v) (ry : RV k G m y w) (rd : RV k G m d u) (e : setIx b S x y d = some S')
    (hQ : ∀ H', Ext G m H G m H' → Sim k fl bs G m S' H' → Q H') : rSetL v w u H Q ∨ rSetD v w u H Q := by
  cases x with
  | loc n =>
    have rx' := rx
    simp only [RV] at rx'
    obtain ⟨a, rfl, ha⟩ := rx'
    simp only [setIx] at e
    split at e
    · rename_i hok
      split at e
      · rename_i ys q hn
        simp only [Option.map_eq_some_iff] at e
        obtain ⟨j, e1, rfl⟩ := e
        obtain ⟨ws, h1, h2⟩ := s.cel n _ a hn ha
        rw [ry.int_inv]
        refine .inl ⟨a, ws, q, j, rfl, rfl, h1, by rw [← h2.length]; exact e1, ?_⟩
        refine (fun wr => hQ _ wr.2 wr.1) (s.write (o := .lst (ws.set j u)) (c' := .lst (ys.set j d)) ha hn ⟨_, upd_same, h2.set j rd⟩ fun b' hb' hnb => ?_)
        show D.unders b' (ys.set j d) = true
        have := (s.lo b' hb').2 n _ hnb hn
        simp only [Cell.under] at this
        rw [unders_all, List.all_eq_true] at this ⊢
        intro z hz
        rcases List.mem_or_eq_of_mem_set hz with hz | hz
        · exact this z hz
        · subst hz; exact okIn_ok hb hok b' hb' hnb
      · rename_i kvs hn
        split at e
        · rename_i qk hk
          split at e
          · rename_i hl
            cases e
            obtain ⟨ws, h1, h2⟩ := s.cel n _ a hn ha
            rw [key_ok ry hk]
            refine .inr ⟨a, _, rfl, DPut.k h1 (by rw [← RKs.length h2]; exact hl), ?_⟩
            refine (fun wr => hQ _ wr.2 wr.1) (s.write (o := .dK (putK ws qk u)) (c' := .dK (putG kvs qk d)) ha hn ⟨_, upd_same, h2.put qk rd⟩ fun b' hb' hnb => ?_)
            exact put_under qk ((s.lo b' hb').2 n _ hnb hn) (okIn_ok hb hok b' hb' hnb)
          · cases e
        · cases e
      · rename_i kvs hn
        split at e
        · rename_i qk hk
          split at e
          · rename_i hl
            cases e
            obtain ⟨ws, h1, h2⟩ := s.cel n _ a hn ha
            obtain ⟨c, rfl, hc⟩ := keyT_ok s ry hk
            refine .inr ⟨a, _, rfl, DPut.t h1 hc (by rw [← RKs.length h2]; exact hl), ?_⟩
            refine (fun wr => hQ _ wr.2 wr.1) (s.write (o := .dT (putK ws qk u)) (c' := .dT (putG kvs qk d)) ha hn ⟨_, upd_same, h2.put qk rd⟩ fun b' hb' hnb => ?_)
            exact put_under qk ((s.lo b' hb').2 n _ hnb hn) (okIn_ok hb hok b' hb' hnb)
          · cases e
        · cases e
      · cases e
    · cases e
  | _ => cases e
theorem sg_ix {b : Nat} {o i : Expr} {pos : Pos} {fo fi : En → Sto → Rd} (hu : Ru X) (hb : ∀ b' ∈ bs, b' ≤ b) (ho : SD k fl bs X o fo) (hi : SD k fl bs X i fi)
    (ha : ∀ v, assign (.Subscript o i pos) X.env v = (do
      let ov ← holding [v] (eval o X.env)
      let iv ← holding [v, ov] (eval i X.env)
      standAt pos
      holding [v, ov, iv] (setItem ov iv v)
      release [v, ov, iv] [])) :
    SG k fl bs X [] (.Subscript o i pos) (fun d ρ S => (fo ρ S).bind fun r => (fi ρ r.2).bind fun q => (setIx b q.2 r.1 q.1 d).map fun S => (ρ, S)) := by
  obtain ⟨to, po, lo⟩ := ho
  obtain ⟨ti, pi, li⟩ := hi
  refine ⟨_, pg_sub po pi (PSet.or set_list (set_dict (Nat.lt_of_le_of_lt (Nat.add_le_add_left (by decide : 1 ≤ 64) _) hu))) ha, fun G m ρ S σ H d v ρ' S' Q s re rv e hQ => ?_⟩
  simp only [Option.bind_eq_some_iff, Option.map_eq_some_iff, Prod.mk.injEq] at e
  obtain ⟨⟨x, S1⟩, e1, ⟨y, S2⟩, e2, S3, e3, rfl, rfl⟩ := e
  refine lo G m ρ S σ H x S1 _ s re e1 fun G1 m1 vx H1 x1 s1 r1 => ?_
  refine li G1 m1 ρ S1 σ H1 y S2 _ s1 (re.ext x1) e2 fun G2 m2 vy H2 x2 s2 r2 => ?_
  exact setIx_ok hb s2 (RV.ext x2 r1) r2 ((rv.ext x1).ext x2) e3 fun H3 x3 s3 => hQ G2 m2 σ H3 (x1.trans (x2.trans x3)) s3 (re.ext (x1.trans x2)) fun _ _ => rfl

/-! what a loop walks -/
def Wks (k : Kx) (fl : List Str) (bs : List Nat) (J : It) (w : Wk) (G0 : Hp) (m0 : List Addr) (S0 : Sto) (H0 : Hp) : Prop :=
  ∀ (i : Nat) (G : Hp) (m : List Addr) (S : Sto) (H : Hp), Lat G0 m0 G m → Sim k fl bs G m S H → stay w.2 S0 S = true →
    (∀ d, w.1[i]? = some d → J.go i H ∧ ∀ x H3, J.yld i H x H3 → ∃ G3, Ext G m H G3 m H3 ∧ Sim k fl bs G3 m S H3 ∧ RV k G3 m d x) ∧ (w.1.length ≤ i → J.stop i H)
def LI (k : Kx) (fl : List Str) (bs : List Nat) (wi : TI) (f : En → Sto → Option (Wk × Sto)) : Prop := ∀ (G : Hp) (m : List Addr) (ρ : En) (S : Sto) (σ : L2.St) (H : Hp) (w : Wk) (S' : Sto) (R : It → Hp → Prop),
  Sim k fl bs G m S H → RE k G m ρ σ → f ρ S = some (w, S') → (∀ (G' : Hp) (m' : List Addr) (H' : Hp) (J : It), Ext G m H G' m' H' → Sim k fl bs G' m' S' H' → Wks k fl bs J w G' m' S' H' → R J H') → wi σ H R
def SI (k : Kx) (fl : List Str) (bs : List Nat) (X : Cx) (tg e : Expr) (f : En → Sto → Option (Wk × Sto)) : Prop := ∃ wi, PI X tg e wi ∧ LI k fl bs wi f
/-- a list that is walked, as it stands later -/
theorem later_lst {x : D} {a : Addr} {xs : List D} (s : Sim k fl bs G m S H) (rx : RV k G m x (.ref a)) (e : lstOf S x = some xs) {G1 H1 : Hp} {m1 : List Addr} {S1 : Sto} (x1 : Lat G m G1 m1) (s1 : Sim k fl bs G1 m1 S1 H1) (st : stay (plOf x) S S1 = true) :
    ∃ vs, SqL k.K H1 a vs ∧ RVs k G1 m1 xs vs := by
  have e1 : lstOf S1 x = some xs := by
    cases x with
    | loc n =>
      simp only [plOf, stay, List.all_cons, List.all_nil, Bool.and_true, decide_eq_true_eq] at st
      simp only [lstOf] at e ⊢
      rw [st]; exact e
    | _ => exact e
  obtain ⟨a', vs, h1, h2, h3⟩ := lstOf_ok s1 (rx.lat x1) e1
  cases h1
  exact ⟨vs, h2, h3⟩
theorem later_tup {x : D} {a : Addr} {xs : List D} (s : Sim k fl bs G m S H) (rx : RV k G m x (.ref a)) (e : tupOf x = some xs) {G1 H1 : Hp} {m1 : List Addr} {S1 : Sto} (x1 : Lat G m G1 m1) (s1 : Sim k fl bs G1 m1 S1 H1) :
    ∃ vs, SqT k.K H1 a vs ∧ RVs k G1 m1 xs vs := by
  obtain ⟨a', vs, h1, h2, h3⟩ := tupOf_ok s1 (rx.lat x1) e
  cases h1
  exact ⟨vs, h2, h3⟩
def iSeq (K : PySem.W.Frag) (tl : TE) : TI := fun σ H R => tl σ H fun x H1 => ∃ a, x = .ref a ∧ (((∃ xs, SqL K H1 a xs) ∧ R (Itl K a) H1) ∨ ((∃ xs, SqT K H1 a xs) ∧ R (Itt K a) H1))
theorem pi_seq {tg l : Expr} {tl : TE} (hl : PE X l tl) : PI X tg l (iSeq X.K tl) := by
  refine ⟨fun pins s σ H R I h => ?_⟩
  refine thn (hl.run pins s σ H _ I h) fun v s1 ⟨x, H1, I1, r1, q1⟩ => ?_
  obtain ⟨a, e, q⟩ := q1
  subst e
  cases r1
  rcases q with ⟨⟨xs, hq⟩, q⟩ | ⟨⟨xs, hq⟩, q⟩
  · obtain ⟨its, rv, p, hz⟩ := I1.list hq
    refine wpAny_pyIter_list p.isList ?_
    refine ⟨s1.heap.objs.size, [s1.heap.objs.size], _, _, H1, rfl, I1.kept (t' := s1.toks) fun b o e => Heap.get?_push_of_some _ e, turn_list a _, ⟨_, Heap.get?_push_size _ rfl, rfl, rfl⟩, fun b hb => ?_, q⟩
    have e : b = s1.heap.objs.size := by simpa using hb
    subst e
    exact I1.fpOk (Nat.le_refl _) (I1.hok.fresh (Nat.le_refl _))
  · obtain ⟨its, rv, p, hz⟩ := I1.tuple hq
    refine wpAny_pyIter_tuple (show s1.heap.IsTuple a its.toArray from p) ?_
    refine ⟨s1.heap.objs.size, [s1.heap.objs.size], _, _, H1, rfl, I1.kept (t' := s1.toks) fun b o e => Heap.get?_push_of_some _ e, turn_tuple a _, ⟨_, Heap.get?_push_size _ rfl, rfl, rfl⟩, fun b hb => ?_, q⟩
    have e : b = s1.heap.objs.size := by simpa using hb
    subst e
    exact I1.fpOk (Nat.le_refl _) (I1.hok.fresh (Nat.le_refl _))
theorem si_ex {tg e : Expr} {f : En → Sto → Rd} (hK : k.K = X.K) (h : SD k fl bs X e f) : SI k fl bs X tg e (fun ρ S => (f ρ S).bind fun r => (seqOf r.2 r.1).map fun xs => ((xs, plOf r.1), r.2)) := by
  obtain ⟨t, p, l⟩ := h
  refine ⟨_, pi_seq p, fun G m ρ S σ H w S' R s re e hR => ?_⟩
  simp only [Option.bind_eq_some_iff, Option.map_eq_some_iff, Prod.mk.injEq] at e
  obtain ⟨⟨x, S1⟩, e1, xs, e2, rfl, rfl⟩ := e
  refine l G m ρ S σ H x S1 _ s re e1 fun G1 m1 v H1 x1 s1 r1 => ?_
  have e2 : seqOf S1 x = some xs := e2
  have r1 : RV k G1 m1 x v := r1
  unfold seqOf at e2
  split at e2
  · rename_i ys hy
    cases e2
    obtain ⟨a, vs, rfl, q1, q2⟩ := tupOf_ok s1 r1 hy
    refine ⟨a, rfl, .inr ⟨⟨vs, hK ▸ q1⟩, hR G1 m1 H1 _ x1 s1 fun i G2 m2 S2 H2 x2 s2 st => ?_⟩⟩
    obtain ⟨ws, q3, q4⟩ := later_tup s1 r1 hy x2 s2
    refine ⟨fun d hd => ?_, fun hl => ⟨ws, hK ▸ q3, by rw [← q4.length]; exact hl⟩⟩
    obtain ⟨u, q5, q6⟩ := q4.get hd
    exact ⟨⟨ws, u, hK ▸ q3, q5⟩, fun x H3 hy => by
      obtain ⟨rfl, hy⟩ := hy
      have := (hy ws (hK ▸ q3)).symm.trans q5
      cases this
      exact ⟨G2, Ext.refl _ _ _, s2, q6⟩⟩
  · obtain ⟨a, vs, rfl, q1, q2⟩ := lstOf_ok s1 r1 e2
    refine ⟨a, rfl, .inl ⟨⟨vs, hK ▸ q1⟩, hR G1 m1 H1 _ x1 s1 fun i G2 m2 S2 H2 x2 s2 st => ?_⟩⟩
    obtain ⟨ws, q3, q4⟩ := later_lst s1 r1 e2 x2 s2 st
    refine ⟨fun d hd => ?_, fun hl => ⟨ws, hK ▸ q3, by rw [← q4.length]; exact hl⟩⟩
    obtain ⟨u, q5, q6⟩ := q4.get hd
    exact ⟨⟨ws, u, hK ▸ q3, q5⟩, fun x H3 hy => by
      obtain ⟨rfl, hy⟩ := hy
      have := (hy ws (hK ▸ q3)).symm.trans q5
      cases this
      exact ⟨G2, Ext.refl _ _ _, s2, q6⟩⟩
theorem rangeD_get : ∀ (n : Nat) (lo : Int) (i : Nat), (rangeD lo n)[i]? = if i < n then some (.int (lo + i)) else none
  | 0, lo, i => by simp [rangeD]
  | n + 1, lo, i => by
    cases i with
    | zero => simp [rangeD]
    | succ i =>
      simp only [rangeD, List.getElem?_cons_succ, rangeD_get n (lo + 1) i, Nat.add_lt_add_iff_right]
      split
      · congr 2; omega
      · rfl
theorem rangeD_len : ∀ (n : Nat) (lo : Int), (rangeD lo n).length = n
  | 0, _ => rfl
  | n + 1, lo => by simp [rangeD, rangeD_len n]
theorem rangeS_get : ∀ (n : Nat) (lo c : Int) (i : Nat), (rangeS lo c n)[i]? = if i < n then some (.int (lo + i * c)) else none
  | 0, lo, c, i => by simp [rangeS]
  | n + 1, lo, c, i => by
    cases i with
    | zero => simp [rangeS]
    | succ i =>
      simp only [rangeS, List.getElem?_cons_succ, rangeS_get n (lo + c) c i, Nat.add_lt_add_iff_right]
      split
      · congr 2
        rw [show ((i + 1 : Nat) : Int) = (i : Int) + 1 by omega, Int.add_mul]; omega
      · rfl
theorem rangeS_len : ∀ (n : Nat) (lo c : Int), (rangeS lo c n).length = n
  | 0, _, _ => rfl
  | n + 1, lo, c => by simp [rangeS, rangeS_len n]
theorem wks_range {lo : Int} {n : Nat} : Wks k fl bs (Itr lo n) (rangeD lo n, []) G m S H := by
  intro i G1 m1 S1 H1 x1 s1 st
  refine ⟨fun d hd => ?_, fun hl => by have hl : (rangeD lo n).length ≤ i := hl; rw [rangeD_len] at hl; exact hl⟩
  have hd : (rangeD lo n)[i]? = some d := hd
  rw [rangeD_get] at hd
  split at hd
  · rename_i hi
    cases hd
    exact ⟨hi, fun x H3 hy => by
      obtain ⟨rfl, rfl⟩ := hy
      exact ⟨G1, Ext.refl _ _ _, s1, RV.ofI⟩⟩
  · cases hd
theorem wks_rangeS {lo c : Int} {n : Nat} : Wks k fl bs (Itc lo c n) (rangeS lo c n, []) G m S H := by
  intro i G1 m1 S1 H1 x1 s1 st
  refine ⟨fun d hd => ?_, fun hl => by have hl : (rangeS lo c n).length ≤ i := hl; rw [rangeS_len] at hl; exact hl⟩
  have hd : (rangeS lo c n)[i]? = some d := hd
  rw [rangeS_get] at hd
  split at hd
  · rename_i hi
    cases hd
    exact ⟨hi, fun x H3 hy => by
      obtain ⟨rfl, rfl⟩ := hy
      exact ⟨G1, Ext.refl _ _ _, s1, RV.ofI⟩⟩
  · cases hd
theorem smallZ_ok {i : Int} (h : smallZ i = true) : -(2 ^ 62) ≤ i ∧ i < 2 ^ 62 := of_decide_eq_true h
theorem si_rng1 {tg a : Expr} {p pos : Pos} {g : En → Sto → Option (List D × Sto)} (hg : Gl X "range") (hm : X.mg "range" = none) (hn : noStar a = true) (ha : SA k fl bs X [a] g) :
    SI k fl bs X tg (.Call (.Name "range" p) [a] [] pos) (fun ρ S => (g ρ S).bind fun r => match r.1 with
      | [.int n] => if smallZ n = true then some ((rangeD 0 n.toNat, []), r.2) else none
      | _ => none) := by
  obtain ⟨t, pa, l⟩ := ha
  refine ⟨_, pi_range1 hg hm pa (by rw [star_no hn]; rfl), fun G m ρ S σ H w S' R s re e hR => ?_⟩
  simp only [Option.bind_eq_some_iff] at e
  obtain ⟨⟨xs, S1⟩, e1, e2⟩ := e
  refine l G m ρ S σ H xs S1 _ s re e1 fun G1 m1 vs H1 x1 s1 r1 => ?_
  split at e2
  · rename_i n hx
    split at e2
    · rename_i hz
      simp only [Option.some.injEq, Prod.mk.injEq] at e2
      obtain ⟨rfl, rfl⟩ := e2
      have hx : xs = [.int n] := hx
      subst hx
      obtain ⟨v, q, rfl, rv, q0⟩ := r1.inv1
      rw [q0.inv0, rv.int_inv]
      exact ⟨n, rfl, (smallZ_ok hz).1, (smallZ_ok hz).2, hR G1 m1 H1 _ x1 s1 wks_range⟩
    · cases e2
  · cases e2
theorem si_rng2 {tg a a2 : Expr} {p pos : Pos} {g : En → Sto → Option (List D × Sto)} (hg : Gl X "range") (hm : X.mg "range" = none) (hn : noStar a = true) (hn2 : noStar a2 = true) (ha : SA k fl bs X [a, a2] g) :
    SI k fl bs X tg (.Call (.Name "range" p) [a, a2] [] pos) (fun ρ S => (g ρ S).bind fun r => match r.1 with
      | [.int lo, .int hi] => if (smallZ lo && smallZ hi) = true then some ((rangeD lo (hi - lo).toNat, []), r.2) else none
      | _ => none) := by
  obtain ⟨t, pa, l⟩ := ha
  refine ⟨_, pi_range2 hg hm pa (by rw [star_no hn, star_no hn2]; rfl) (by rw [star_no hn2]; rfl), fun G m ρ S σ H w S' R s re e hR => ?_⟩
  simp only [Option.bind_eq_some_iff] at e
  obtain ⟨⟨xs, S1⟩, e1, e2⟩ := e
  refine l G m ρ S σ H xs S1 _ s re e1 fun G1 m1 vs H1 x1 s1 r1 => ?_
  split at e2
  · rename_i lo hi hx
    split at e2
    · rename_i hz
      simp only [Option.some.injEq, Prod.mk.injEq] at e2
      obtain ⟨rfl, rfl⟩ := e2
      have hx : xs = [.int lo, .int hi] := hx
      subst hx
      obtain ⟨v, q, rfl, rv, q0⟩ := r1.inv1
      obtain ⟨v2, q, rfl, rv2, q0⟩ := q0.inv1
      rw [q0.inv0, rv.int_inv, rv2.int_inv]
      simp only [Bool.and_eq_true] at hz
      exact ⟨lo, hi, rfl, ⟨(smallZ_ok hz.1).1, (smallZ_ok hz.1).2, (smallZ_ok hz.2).1, (smallZ_ok hz.2).2⟩, hR G1 m1 H1 _ x1 s1 wks_range⟩
    · cases e2
  · cases e2
theorem zipD_get : ∀ (xs ys : List D) (i : Nat) (d : D), (zipD xs ys)[i]? = some d → ∃ x y, xs[i]? = some x ∧ ys[i]? = some y ∧ d = .tup [x, y]
  | x :: xs, y :: ys, i, d, h => by
    cases i with
    | zero => simp [zipD] at h; exact ⟨x, y, by simp, by simp, h.symm⟩
    | succ i => simpa using zipD_get xs ys i d (by simpa [zipD] using h)
  | [], _, i, d, h => by simp [zipD] at h
  | _ :: _, [], i, d, h => by simp [zipD] at h
theorem zipD_len : ∀ (xs ys : List D), (zipD xs ys).length = min xs.length ys.length
  | x :: xs, y :: ys => by simp [zipD, zipD_len xs ys, Nat.succ_min_succ]
  | [], _ => by simp [zipD]
  | _ :: _, [] => by simp [zipD]
theorem new_pair {x y : D} {v w : V} (s : Sim k fl bs G m S H) (rx : RV k G m x v) (ry : RV k G m y w) {T : Addr} (hT : H T = none) :
    ∃ G3, Ext G m H G3 m (upd H T (.tup [v, w])) ∧ Sim k fl bs G3 m S (upd H T (.tup [v, w])) ∧ RV k G3 m (.tup [x, y]) (.ref T) := by
  obtain ⟨s1, x1⟩ := s.lay (o := .tup [v, w]) hT
  exact ⟨_, x1, s1, by simp only [RV]; exact ⟨T, _, rfl, upd_same, .cons (rx.ext x1) (.one (ry.ext x1))⟩⟩
theorem stay_app {ws ws' : List Nat} {S0 : Sto} (h : stay (ws ++ ws') S0 S = true) : stay ws S0 S = true ∧ stay ws' S0 S = true := by
  unfold stay at h ⊢
  rw [List.all_append, Bool.and_eq_true] at h
  exact h
theorem si_zip {es : List Expr} {n : Nat} {tpos : Pos} {a a2 : Expr} {p pos : Pos} {g : En → Sto → Option (List D × Sto)} (hK : k.K = X.K) (hg : Gl X "zip") (hm : X.mg "zip" = none) (hn : noStar a = true) (hn2 : noStar a2 = true) (ha : SA k fl bs X [a, a2] g) :
    SI k fl bs X (.Tuple es n tpos) (.Call (.Name "zip" p) [a, a2] [] pos) (fun ρ S => (g ρ S).bind fun r => match r.1 with
      | [x, y] => match tupOf x, tupOf y with
        | some xs, some ys => some ((zipD xs ys, []), r.2)
        | _, _ => match lstOf r.2 x, lstOf r.2 y with
          | some xs, some ys => some ((zipD xs ys, plOf x ++ plOf y), r.2)
          | _, _ => none
      | _ => none) := by
  obtain ⟨t, pa, l⟩ := ha
  refine ⟨_, RZ.pi_zipA hg hm pa (by rw [star_no hn]) (by rw [star_no hn2]; rfl), fun G m ρ S σ H w S' R s re e hR => ?_⟩
  simp only [Option.bind_eq_some_iff] at e
  obtain ⟨⟨zs, S1⟩, e1, e2⟩ := e
  refine l G m ρ S σ H zs S1 _ s re e1 fun G1 m1 vs H1 x1 s1 r1 => ?_
  split at e2
  · rename_i x y hx
    have hx : zs = [x, y] := hx
    subst hx
    obtain ⟨v, q, rfl, rv, q0⟩ := r1.inv1
    obtain ⟨v2, q, rfl, rv2, q0⟩ := q0.inv1
    rw [q0.inv0]
    split at e2
    · rename_i xs ys h1 h2
      simp only [Option.some.injEq, Prod.mk.injEq] at e2
      obtain ⟨rfl, rfl⟩ := e2
      obtain ⟨c, us, rfl, q1, q2⟩ := tupOf_ok s1 rv h1
      obtain ⟨c', us', rfl, q3, q4⟩ := tupOf_ok s1 rv2 h2
      refine ⟨c, c', us, us', rfl, .inr ⟨hK ▸ q1, hK ▸ q3, hR G1 m1 H1 _ x1 s1 fun i G2 m2 S2 H2 x2 s2 st => ?_⟩⟩
      obtain ⟨ws, p1, p2⟩ := later_tup s1 rv h1 x2 s2
      obtain ⟨ws', p3, p4⟩ := later_tup s1 rv2 h2 x2 s2
      refine ⟨fun d hd => ?_, fun hl => ⟨ws, ws', hK ▸ p1, hK ▸ p3, ?_⟩⟩
      · obtain ⟨z1, z2, hz1, hz2, rfl⟩ := zipD_get xs ys i d hd
        obtain ⟨u1, p5, p6⟩ := p2.get hz1
        obtain ⟨u2, p7, p8⟩ := p4.get hz2
        refine ⟨⟨ws, ws', u1, u2, hK ▸ p1, hK ▸ p3, p5, p7⟩, fun xv H3 hy => ?_⟩
        obtain ⟨T, a1, a2, rfl, hT, rfl, b1, b2⟩ := hy
        have b1 := (b1 ws (hK ▸ p1)).symm.trans p5
        have b2 := (b2 ws' (hK ▸ p3)).symm.trans p7
        cases b1; cases b2
        exact new_pair s2 p6 p8 hT
      · have hl : (zipD xs ys).length ≤ i := hl
        rw [zipD_len] at hl
        rw [← p2.length, ← p4.length]
        omega
    · split at e2
      · rename_i xs ys h1 h2
        simp only [Option.some.injEq, Prod.mk.injEq] at e2
        obtain ⟨rfl, rfl⟩ := e2
        obtain ⟨c, us, rfl, q1, q2⟩ := lstOf_ok s1 rv h1
        obtain ⟨c', us', rfl, q3, q4⟩ := lstOf_ok s1 rv2 h2
        refine ⟨c, c', us, us', rfl, .inl ⟨hK ▸ q1, hK ▸ q3, hR G1 m1 H1 _ x1 s1 fun i G2 m2 S2 H2 x2 s2 st => ?_⟩⟩
        obtain ⟨st1, st2⟩ := stay_app st
        obtain ⟨ws, p1, p2⟩ := later_lst s1 rv h1 x2 s2 st1
        obtain ⟨ws', p3, p4⟩ := later_lst s1 rv2 h2 x2 s2 st2
        refine ⟨fun d hd => ?_, fun hl => ⟨ws, ws', hK ▸ p1, hK ▸ p3, ?_⟩⟩
        · obtain ⟨z1, z2, hz1, hz2, rfl⟩ := zipD_get xs ys i d hd
          obtain ⟨u1, p5, p6⟩ := p2.get hz1
          obtain ⟨u2, p7, p8⟩ := p4.get hz2
          refine ⟨⟨ws, ws', u1, u2, hK ▸ p1, hK ▸ p3, p5, p7⟩, fun xv H3 hy => ?_⟩
          obtain ⟨T, a1, a2, rfl, hT, rfl, b1, b2⟩ := hy
          have b1 := (b1 ws (hK ▸ p1)).symm.trans p5
          have b2 := (b2 ws' (hK ▸ p3)).symm.trans p7
          cases b1; cases b2
          exact new_pair s2 p6 p8 hT
        · have hl : (zipD xs ys).length ≤ i := hl
          rw [zipD_len] at hl
          rw [← p2.length, ← p4.length]
          omega
      · cases e2
  · cases e2
end
end EV
end
section
set_option maxRecDepth 100000
set_option autoImplicit false
/-! EV: comprehensions, statements. -/
namespace EV
open PySem L2

section
variable {k : Kx} {fl : List Str} {bs : List Nat} {X : Cx} {G G' : Hp} {m m' : List Addr} {S S' : Sto} {H H' : Hp}

theorem rangeN_ok {lo hi st : Int} (a1 : -(2 ^ 62) ≤ lo ∧ lo < 2 ^ 62) (a2 : -(2 ^ 62) ≤ hi ∧ hi < 2 ^ 62) (h : st = -1 ∨ 0 < st ∧ st < 1073741824) : RgC lo hi st (rangeN lo hi st) := by
  rcases h with h | ⟨h3, h4⟩
  · subst h
    have := RgC.neg a1.1 a1.2 a2.1 a2.2
    simpa only [rangeN, if_true] using this
  · have hne : st ≠ -1 := by omega
    have hsz : Builtin.Range.rangeSize lo hi st = (rangeN lo hi st : Int) := by
      unfold Builtin.Range.rangeSize rangeN
      rw [if_pos (show st > 0 from h3), if_neg hne]
      by_cases hl : lo < hi
      · rw [if_pos hl]
        have e : (hi - lo + st - 1) / st = (hi - lo - 1) / st + 1 := by
          rw [show hi - lo + st - 1 = (hi - lo - 1) + 1 * st by omega, Int.add_mul_ediv_right _ _ (by omega)]
        have p : 0 ≤ (hi - lo - 1) / st := Int.ediv_nonneg (by omega) (by omega)
        rw [e]; omega
      · rw [if_neg hl]
        have p : (hi - lo + st - 1) / st ≤ 0 := by
          have : (hi - lo + st - 1) / st < 1 := Int.ediv_lt_of_lt_mul h3 (by omega)
          omega
        omega
    refine ⟨by omega, by omega, ?_, hsz⟩
    have hb : (rangeN lo hi st : Int) < 2 ^ 63 := by
      rw [← hsz]
      unfold Builtin.Range.rangeSize
      rw [if_pos (show st > 0 from h3)]
      split
      · have : (hi - lo - 1) / st ≤ hi - lo - 1 := Int.ediv_le_self _ (by omega)
        omega
      · decide
    unfold Builtin.Range.small
    rw [hsz]
    simp only [Builtin.Range.rangeFitsLong, Bool.and_eq_true, Bool.or_eq_true, decide_eq_true_eq, beq_iff_eq, show st > 0 from h3, if_true]
    omega
theorem si_rng3 {tg a a2 a3 : Expr} {p pos : Pos} {g : En → Sto → Option (List D × Sto)} (hg : Gl X "range") (hm : X.mg "range" = none) (hn : noStar a = true) (hn2 : noStar a2 = true) (hn3 : noStar a3 = true) (ha : SA k fl bs X [a, a2, a3] g) :
    SI k fl bs X tg (.Call (.Name "range" p) [a, a2, a3] [] pos) (fun ρ S => (g ρ S).bind fun r => match r.1 with
      | [.int lo, .int hi, .int st] => if (smallZ lo && smallZ hi && (decide (st = -1) || decide (0 < st ∧ st < 1073741824))) = true then some ((rangeS lo st (rangeN lo hi st), []), r.2) else none
      | _ => none) := by
  obtain ⟨t, pa, l⟩ := ha
  refine ⟨_, pi_range3 hg hm pa (by rw [star_no hn]) (by rw [star_no hn2, star_no hn3]; rfl), fun G m ρ S σ H w S' R s re e hR => ?_⟩
  simp only [Option.bind_eq_some_iff] at e
  obtain ⟨⟨xs, S1⟩, e1, e2⟩ := e
  refine l G m ρ S σ H xs S1 _ s re e1 fun G1 m1 vs H1 x1 s1 r1 => ?_
  split at e2
  · rename_i lo hi st hx
    split at e2
    · rename_i hz
      simp only [Option.some.injEq, Prod.mk.injEq] at e2
      obtain ⟨rfl, rfl⟩ := e2
      have hx : xs = [.int lo, .int hi, .int st] := hx
      subst hx
      obtain ⟨v, q, rfl, rv, q0⟩ := r1.inv1
      obtain ⟨v2, q, rfl, rv2, q0⟩ := q0.inv1
      obtain ⟨v3, q, rfl, rv3, q0⟩ := q0.inv1
      rw [q0.inv0, rv.int_inv, rv2.int_inv, rv3.int_inv]
      simp only [Bool.and_eq_true, Bool.or_eq_true, decide_eq_true_eq] at hz
      obtain ⟨⟨h1, h2⟩, h3⟩ := hz
      have a1 := smallZ_ok h1
      have a2 := smallZ_ok h2
      exact ⟨lo, hi, st, _, rfl, rangeN_ok a1 a2 h3, hR G1 m1 H1 _ x1 s1 wks_rangeS⟩
    · cases e2
  · cases e2
theorem enumD_get : ∀ (xs : List D) (j : Int) (i : Nat) (d : D), (enumD j xs)[i]? = some d → ∃ x, xs[i]? = some x ∧ d = .tup [.int (j + i), x]
  | [], j, i, d, h => by simp [enumD] at h
  | x :: xs, j, i, d, h => by
    cases i with
    | zero => simp [enumD] at h; exact ⟨x, by simp, by simp [h]⟩
    | succ i =>
      obtain ⟨y, h1, h2⟩ := enumD_get xs (j + 1) i d (by simpa [enumD] using h)
      refine ⟨y, by simpa using h1, ?_⟩
      rw [h2]; congr 3; omega
theorem enumD_len : ∀ (xs : List D) (j : Int), (enumD j xs).length = xs.length
  | [], _ => rfl
  | x :: xs, j => by simp [enumD, enumD_len xs]
theorem si_enumL {es : List Expr} {n : Nat} {tpos : Pos} {a : Expr} {p pos : Pos} {g : En → Sto → Rd} (hK : k.K = X.K) (hg : Gl X "enumerate") (hm : X.mg "enumerate" = none) (hn : noStar a = true) (ha : SD k fl bs X a g) :
    SI k fl bs X (.Tuple es n tpos) (.Call (.Name "enumerate" p) [a] [] pos) (fun ρ S => (g ρ S).bind fun r => (lstOf r.2 r.1).map fun xs => ((enumD 0 xs, plOf r.1), r.2)) := by
  obtain ⟨t, pa, l⟩ := ha
  refine ⟨_, pi_enum hg hm (pa_cons pa pa_nil (star_no hn)) (by rw [star_no hn]; rfl), fun G m ρ S σ H w S' R s re e hR => ?_⟩
  simp only [Option.bind_eq_some_iff, Option.map_eq_some_iff, Prod.mk.injEq] at e
  obtain ⟨⟨x, S1⟩, e1, xs, e2, rfl, rfl⟩ := e
  refine l G m ρ S σ H x S1 _ s re e1 fun G1 m1 v H1 x1 s1 r1 => ?_
  obtain ⟨c, us, rfl, q1, q2⟩ := lstOf_ok s1 r1 e2
  refine ⟨c, us, rfl, hK ▸ q1, hR G1 m1 H1 _ x1 s1 fun i G2 m2 S2 H2 x2 s2 st => ?_⟩
  obtain ⟨ws, p1, p2⟩ := later_lst s1 r1 e2 x2 s2 st
  refine ⟨fun d hd => ?_, fun hl => ⟨ws, hK ▸ p1, ?_⟩⟩
  · obtain ⟨z1, hz1, rfl⟩ := enumD_get xs 0 i d hd
    obtain ⟨u1, p5, p6⟩ := p2.get hz1
    refine ⟨⟨ws, u1, hK ▸ p1, p5⟩, fun xv H3 hy => ?_⟩
    obtain ⟨T, a1, rfl, hT, rfl, b1⟩ := hy
    have b1 := (b1 ws (hK ▸ p1)).symm.trans p5
    cases b1
    have := new_pair (x := .int (0 + (i : Int))) (v := .int (i : Nat)) s2 (by simp only [RV]; congr 1; omega) p6 hT
    exact this
  · have hl : (enumD 0 xs).length ≤ i := hl
    rw [enumD_len] at hl
    rw [← p2.length]; exact hl

/-! comprehensions -/
def STs (k : Kx) (fl : List Str) (bs : List Nat) (X : Cx) (es : List Expr) (f : En → Sto → Option (Bool × Sto)) : Prop := ∃ te, PTs X es te ∧ LT k fl bs te f
theorem sts_nil : STs k fl bs X [] (fun _ S => some (true, S)) := by
  refine ⟨_, pts_nil, fun G m ρ S σ H r S' Q s re e hQ => ?_⟩
  simp only [Option.some.injEq, Prod.mk.injEq] at e
  obtain ⟨rfl, rfl⟩ := e
  exact hQ G m H (Ext.refl _ _ _) s
theorem sts_one {e : Expr} {f : En → Sto → Option (Bool × Sto)} (h : ST k fl bs X e f) : STs k fl bs X [e] f := by
  obtain ⟨t, p, l⟩ := h
  exact ⟨t, pts_one p, l⟩
theorem wipe_set0 {σ : L2.St} {i : Nat} : ∀ is : List Nat, L2.wipe (σ.set i none) is = (L2.wipe σ is).set i none
  | [] => rfl
  | j :: is => by
    show (L2.wipe (σ.set i none) is).set j none = ((L2.wipe σ is).set j none).set i none
    rw [wipe_set0 is]
    by_cases h : i = j
    · subst h; rfl
    · exact List.set_comm _ _ h
theorem wipe_wipe {σ : L2.St} : ∀ is : List Nat, L2.wipe (L2.wipe σ is) is = L2.wipe σ is
  | [] => rfl
  | j :: is => by
    show (L2.wipe ((L2.wipe σ is).set j none) is).set j none = (L2.wipe σ is).set j none
    rw [wipe_set0, wipe_wipe is, List.set_set]
/-- the list that grows beside -/
theorem comp_ok {wi : TI} {g : TG} {tt : TT} {te : TE} {own sl : List Nat} {fi : En → Sto → Option (Wk × Sto)} {ft : D → En → Sto → Option (En × Sto)} {fs : En → Sto → Option (Bool × Sto)} {fe : En → Sto → Rd}
    (hi : LI k fl bs wi fi) (hg : LG k fl bs sl g ft) (ht : LT k fl bs tt fs) (he : LD k fl bs te fe) (hsl : ∀ i ∈ sl, i ∈ own) :
    LE k fl bs (tLc wi g tt te own) (fun ρ S => (fi ρ S).bind fun w => (compGo ft fs fe w.1.2 w.2 (wipeE ρ own) w.1.1 [] w.2).map fun r => (.fl r.1, r.2)) := by
  intro G m ρ S σ H z S' Q s re e hQ
  simp only [Option.bind_eq_some_iff, Option.map_eq_some_iff, Prod.mk.injEq] at e
  obtain ⟨⟨w, S0⟩, e1, ⟨ys, Sf⟩, e2, rfl, rfl⟩ := e
  refine hi G m ρ S σ H w S0 _ s re e1 fun G0 m0 H0 J x0 s0 wk => ?_
  intro D hD
  have rew : RE k G0 m0 (wipeE ρ own) (L2.wipe σ own) := (re.ext x0).wipe own
  -- D is nobody's; all else as the world says
  let Inv : Nat → Nat → Hp → Prop := fun i n Hc => n + i = w.1.length ∧ ∃ (G1 : Hp) (m1 : List Addr) (S1 : Sto) (acc : List EV.D) (vs : List V),
    Ext G0 m0 H0 G1 m1 Hc ∧ Sim k fl bs G1 m1 S1 Hc ∧ Hc D = some (.lst vs) ∧ G1 D = none ∧ D ∉ m1 ∧ RVs k G1 m1 acc vs ∧ compGo ft fs fe w.2 S0 (wipeE ρ own) (w.1.drop i) acc S1 = some (ys, Sf)
  refine ⟨Inv, ⟨w.1.length, by omega, G0, m0, S0, [], [], (s0.laid hD).2, (s0.laid hD).1, upd_same, s0.gnone hD, s0.no_m hD, .nil, by simpa using e2⟩, ?_⟩
  rintro i n Hc ⟨hn, G1, m1, S1, acc, vs, x1, s1, hDc, hDg, hDm, ra, ec⟩
  cases hw : w.1[i]? with
  | none =>
    have hl : w.1.length ≤ i := by simpa using hw
    rw [List.drop_eq_nil_of_le hl] at ec
    simp only [compGo] at ec
    split at ec
    · rename_i st
      simp only [Option.some.injEq, Prod.mk.injEq] at ec
      obtain ⟨rfl, rfl⟩ := ec
      refine .inl ⟨(wk i G1 m1 S1 Hc x1.lat s1 st).2 hl, ?_⟩
      exact hQ G1 m1 _ Hc (x0.trans x1) s1 ⟨D, vs, rfl, x0.dom D hD, hDc, hDg, hDm, ra⟩
    · cases ec
  | some d =>
    have hl : i < w.1.length := (List.getElem?_eq_some_iff.mp hw).1
    have hdrop : w.1.drop i = d :: w.1.drop (i + 1) := by
      rw [List.drop_eq_getElem_cons hl]
      congr 1
      rw [List.getElem?_eq_getElem hl] at hw
      exact Option.some.inj hw
    rw [hdrop] at ec
    simp only [compGo] at ec
    split at ec
    · rename_i st
      simp only [Option.bind_eq_some_iff] at ec
      obtain ⟨⟨ρ2, S2⟩, ec1, ⟨b, S3⟩, ec2, ec3⟩ := ec
      obtain ⟨go, yl⟩ := (wk i G1 m1 S1 Hc x1.lat s1 st).1 d hw
      refine .inr ⟨go, fun H' => ∃ m', m' < n ∧ Inv (i + 1) m' H', fun H' h => h, fun x H3 hy => ?_⟩
      obtain ⟨G3, x3, s3, r3⟩ := yl x H3 hy
      refine hg G3 m1 _ S1 _ H3 d x ρ2 S2 _ s3 (rew.ext (x1.trans x3)) r3 ec1 fun G4 m4 σ4 H4 x4 s4 re4 w4 => ⟨(w4 own hsl).trans (wipe_wipe own), ?_⟩
      refine ht G4 m4 ρ2 S2 σ4 H4 b S3 _ s4 re4 ec2 fun G5 m5 H5 x5 s5 => ?_
      have x15 := x3.trans (x4.trans x5)
      cases b with
      | false =>
        simp only [Bool.false_eq_true, if_false] at ec3 ⊢
        obtain ⟨q1, q2, q3⟩ := x15.fr D _ hDg hDm hDc
        exact ⟨n - 1, by omega, by omega, G5, m5, S3, acc, vs, x1.trans x15, s5, q1, q2, q3, ra.ext x15, ec3⟩
      | true =>
        simp only [if_true, Option.bind_eq_some_iff] at ec3 ⊢
        obtain ⟨⟨y, S4⟩, ec4, ec5⟩ := ec3
        refine he G5 m5 ρ2 S3 σ4 H5 y S4 _ s5 (re4.ext x5) ec4 fun G6 m6 vy H6 x6 s6 r6 => ?_
        have x16 := x15.trans x6
        obtain ⟨q1, q2, q3⟩ := x16.fr D _ hDg hDm hDc
        split at ec5
        · rename_i hz
          refine ⟨vs, q1, by rw [← ra.length]; exact hz, n - 1, by omega, by omega, ?_⟩
          have x17 : Ext G1 m1 Hc G6 m6 H6 := x16
          -- D is written: nobody holds it
          have xD : Ext G0 m0 H0 G6 m6 (upd H6 D (.lst (vs ++ [vy]))) := by
            have y := x1.trans x16
            refine ⟨y.sg, y.pm, fun a o h1 h2 h3 => ?_, fun a h => ?_⟩
            · obtain ⟨p1, p2, p3⟩ := y.fr a o h1 h2 h3
              refine ⟨?_, p2, p3⟩
              rw [upd_ne (fun z => by subst z; rw [hD] at h3; cases h3)]; exact p1
            · by_cases ha : a = D
              · subst ha; rw [upd_same] at h; cases h
              · rw [upd_ne ha] at h; exact y.dom a h
          have sD : Sim k fl bs G6 m6 S4 (upd H6 D (.lst (vs ++ [vy]))) := by
            refine ⟨fun b u h => ?_, s6.len, s6.nd, s6.out, fun nn c a h1 h2 => (s6.cel nn c a h1 h2).gen (Same.refl G6) (fun _ _ h => h) ?_, s6.lo⟩
            · rw [upd_ne (fun z => by subst z; rw [q2] at h; cases h)]; exact s6.sub b u h
            · exact upd_ne fun z => q3 (z ▸ List.mem_of_getElem? h2)
          have rvy : RV k G6 m6 y vy := r6
          exact ⟨G6, m6, S4, acc ++ [y], vs ++ [vy], xD, sD, upd_same, q2, q3, (ra.ext x16).append (.one rvy), ec5⟩
        · cases ec5
    · cases ec

/-! statements -/
def WO (k : Kx) (fl : List Str) (bs : List Nat) (G : Hp) (m : List Addr) (H : Hp) (o : Out) (D : Ends) : Prop := match o with
  | .nx ρ S => ∀ (G' : Hp) (m' : List Addr) (σ' : L2.St) (H' : Hp), Ext G m H G' m' H' → Sim k fl bs G' m' S H' → RE k G' m' ρ σ' → D.nx σ' H'
  | .bk ρ S => ∀ (G' : Hp) (m' : List Addr) (σ' : L2.St) (H' : Hp), Ext G m H G' m' H' → Sim k fl bs G' m' S H' → RE k G' m' ρ σ' → D.bk σ' H'
  | .ct ρ S => ∀ (G' : Hp) (m' : List Addr) (σ' : L2.St) (H' : Hp), Ext G m H G' m' H' → Sim k fl bs G' m' S H' → RE k G' m' ρ σ' → D.ct σ' H'
  | .rt d S => ∀ (G' : Hp) (m' : List Addr) (v : V) (H' : Hp), Ext G m H G' m' H' → Sim k fl bs G' m' S H' → RV k G' m' d v → D.rt v H'
theorem WO.ext {H1 G1 : Hp} {m1 : List Addr} (x : Ext G m H G1 m1 H1) {o : Out} {D : Ends} (h : WO k fl bs G m H o D) : WO k fl bs G1 m1 H1 o D := by
  cases o with
  | nx ρ S => exact fun G' m' σ' H' x' => h G' m' σ' H' (x.trans x')
  | bk ρ S => exact fun G' m' σ' H' x' => h G' m' σ' H' (x.trans x')
  | ct ρ S => exact fun G' m' σ' H' x' => h G' m' σ' H' (x.trans x')
  | rt d S => exact fun G' m' v H' x' => h G' m' v H' (x.trans x')
def LS (k : Kx) (fl : List Str) (bs : List Nat) (ts : TS) (f : En → Sto → Option Out) : Prop := ∀ (G : Hp) (m : List Addr) (ρ : En) (S : Sto) (σ : L2.St) (H : Hp) (o : Out) (D : Ends),
  Sim k fl bs G m S H → RE k G m ρ σ → f ρ S = some o → WO k fl bs G m H o D → ts D σ H
def SS (k : Kx) (fl : List Str) (bs : List Nat) (X : Cx) (st : Stmt) (f : En → Sto → Option Out) : Prop := ∃ ts, PS X st ts ∧ LS k fl bs ts f
def SSs (k : Kx) (fl : List Str) (bs : List Nat) (X : Cx) (st : List Stmt) (f : En → Sto → Option Out) : Prop := ∃ ts, PSs X st ts ∧ LS k fl bs ts f
theorem ss_nil : SSs k fl bs X [] (fun ρ S => some (.nx ρ S)) := by
  refine ⟨_, pss_nil, fun G m ρ S σ H o D s re e w => ?_⟩
  simp only [Option.some.injEq] at e
  subst e
  exact w G m σ H (Ext.refl _ _ _) s re
theorem ss_cons {st : Stmt} {rest : List Stmt} {f g : En → Sto → Option Out} (h : SS k fl bs X st f) (hr : SSs k fl bs X rest g) :
    SSs k fl bs X (st :: rest) (fun ρ S => (f ρ S).bind fun
      | .nx ρ S => g ρ S
      | o => some o) := by
  obtain ⟨t, p, l⟩ := h
  obtain ⟨u, p2, l2⟩ := hr
  refine ⟨_, pss_cons p p2, fun G m ρ S σ H o D s re e w => ?_⟩
  simp only [Option.bind_eq_some_iff] at e
  obtain ⟨o1, e1, e2⟩ := e
  refine l G m ρ S σ H o1 _ s re e1 ?_
  cases o1 with
  | nx ρ1 S1 => exact fun G' m' σ' H' x' s' re' => l2 G' m' ρ1 S1 σ' H' o D s' re' e2 (w.ext x')
  | rt d S1 => simp only [Option.some.injEq] at e2; subst e2; exact w
  | bk ρ1 S1 => simp only [Option.some.injEq] at e2; subst e2; exact w
  | ct ρ1 S1 => simp only [Option.some.injEq] at e2; subst e2; exact w
theorem ss_if {c : Expr} {a b : List Stmt} {pos : Pos} {fc : En → Sto → Option (Bool × Sto)} {fa fb : En → Sto → Option Out} (hc : ST k fl bs X c fc) (ha : SSs k fl bs X a fa) (hb : SSs k fl bs X b fb) :
    SS k fl bs X (.If c a b pos) (fun ρ S => (fc ρ S).bind fun t => if t.1 = true then fa ρ t.2 else fb ρ t.2) := by
  obtain ⟨tc, pc, lc⟩ := hc
  obtain ⟨ta, pa, la⟩ := ha
  obtain ⟨tb, pb, lb⟩ := hb
  refine ⟨_, ps_if pc pa pb, fun G m ρ S σ H o D s re e w => ?_⟩
  simp only [Option.bind_eq_some_iff] at e
  obtain ⟨⟨t, S1⟩, e1, e2⟩ := e
  refine lc G m ρ S σ H t S1 _ s re e1 fun G1 m1 H1 x1 s1 => ?_
  cases t with
  | true => exact iteT (la G1 m1 ρ S1 σ H1 o D s1 (re.ext x1) e2 (w.ext x1))
  | false => exact iteF (lb G1 m1 ρ S1 σ H1 o D s1 (re.ext x1) e2 (w.ext x1))
theorem ss_ret {e : Expr} {pos : Pos} {f : En → Sto → Rd} (h : SD k fl bs X e f) : SS k fl bs X (.Return (some e) pos) (fun ρ S => (f ρ S).map fun r => .rt r.1 r.2) := by
  obtain ⟨t, p, l⟩ := h
  refine ⟨_, ps_ret p, fun G m ρ S σ H o D s re e w => ?_⟩
  simp only [Option.map_eq_some_iff] at e
  obtain ⟨⟨d, S1⟩, e1, rfl⟩ := e
  exact l G m ρ S σ H d S1 _ s re e1 fun G1 m1 v H1 x1 s1 r1 => w G1 m1 v H1 x1 s1 r1
theorem ss_retN {pos : Pos} : SS k fl bs X (.Return none pos) (fun ρ S => some (.rt .non S)) := by
  refine ⟨_, ps_retN, fun G m ρ S σ H o D s re e w => ?_⟩
  simp only [Option.some.injEq] at e
  subst e
  exact w G m .non H (Ext.refl _ _ _) s (by simp only [RV])
theorem ss_brk {pos : Pos} : SS k fl bs X (.Break pos) (fun ρ S => some (.bk ρ S)) := by
  refine ⟨_, ps_break, fun G m ρ S σ H o D s re e w => ?_⟩
  simp only [Option.some.injEq] at e
  subst e
  exact w G m σ H (Ext.refl _ _ _) s re
theorem ss_cnt {pos : Pos} : SS k fl bs X (.Continue pos) (fun ρ S => some (.ct ρ S)) := by
  refine ⟨_, ps_continue, fun G m ρ S σ H o D s re e w => ?_⟩
  simp only [Option.some.injEq] at e
  subst e
  exact w G m σ H (Ext.refl _ _ _) s re
theorem ss_pass {pos : Pos} : SS k fl bs X (.Pass pos) (fun ρ S => some (.nx ρ S)) := by
  refine ⟨_, ps_pass, fun G m ρ S σ H o D s re e w => ?_⟩
  simp only [Option.some.injEq] at e
  subst e
  exact w G m σ H (Ext.refl _ _ _) s re
theorem ss_ex {e : Expr} {pos : Pos} {f : En → Sto → Rv} (hs : swapsWith e none pos.line X.env = pure false) (h : SE k fl bs X e f) : SS k fl bs X (.Expr e pos) (fun ρ S => (f ρ S).map fun r => .nx ρ r.2) := by
  obtain ⟨t, p, l⟩ := h
  refine ⟨_, ps_expr p hs, fun G m ρ S σ H o D s re e w => ?_⟩
  simp only [Option.map_eq_some_iff] at e
  obtain ⟨⟨d, S1⟩, e1, rfl⟩ := e
  exact l G m ρ S σ H d S1 _ s re e1 fun G1 m1 v H1 x1 s1 r1 => w G1 m1 σ H1 x1 s1 (re.ext x1)
/-- target = e -/
theorem ss_asg {tg e : Expr} {pos : Pos} {sl : List Nat} {f : En → Sto → Rd} {g : D → En → Sto → Option (En × Sto)} (h : SD k fl bs X e f) (hg : SG k fl bs X sl tg g) (hs : swapsWithSole [tg] e pos.line X.env = pure false)
    (hw : swappedStores [tg] e X.env = pure none) (h1 : noStar tg = true) : SS k fl bs X (.Assign [tg] e pos) (fun ρ S => (f ρ S).bind fun r => (g r.1 ρ r.2).map fun q => .nx q.1 q.2) := by
  obtain ⟨t, p, l⟩ := h
  obtain ⟨u, p2, l2⟩ := hg
  refine ⟨_, ps_asg p p2 hs hw (assign_one h1), fun G m ρ S σ H o D s re e w => ?_⟩
  simp only [Option.bind_eq_some_iff, Option.map_eq_some_iff] at e
  obtain ⟨⟨d, S1⟩, e1, ⟨ρ2, S2⟩, e2, rfl⟩ := e
  refine l G m ρ S σ H d S1 _ s re e1 fun G1 m1 v H1 x1 s1 r1 => ?_
  exact l2 G1 m1 ρ S1 σ H1 d v ρ2 S2 _ s1 (re.ext x1) r1 e2 fun G2 m2 σ2 H2 x2 s2 re2 _ => w G2 m2 σ2 H2 (x1.trans x2) s2 re2
/-- name = e, where the comprehension's list goes straight to the name -/
theorem ss_setT {i : Nat} {st : Stmt} {t : TE} {f : En → Sto → Rv} (p : PS X st (tAsg t (gName i))) (l : LE k fl bs t f) : SS k fl bs X st (fun ρ S => (dOf (f ρ S)).bind fun r => (if i < ρ.length then some (ρ.set i (some r.1), r.2) else none).map fun q => .nx q.1 q.2) := by
  refine ⟨_, p, fun G m ρ S σ H o D s re e w => ?_⟩
  simp only [Option.bind_eq_some_iff, Option.map_eq_some_iff] at e
  obtain ⟨⟨d, S1⟩, e1, ⟨ρ2, S2⟩, e2, rfl⟩ := e
  obtain ⟨v, e3, e4⟩ := dOf_some e1
  split at e2
  · simp only [Option.some.injEq, Prod.mk.injEq] at e2
    obtain ⟨rfl, rfl⟩ := e2
    refine l G m ρ S σ H v S1 _ s re e3 fun G1 m1 u H1 x1 s1 r1 => ?_
    obtain ⟨G2, x2, s2, r2⟩ := frz_ok x1 s1 r1 e4
    exact w G2 m1 _ H1 x2 s2 ((re.ext x2).set r2)
  · cases e2
theorem slot_of {ρ : En} {i : Nat} {x : EV.D} (h : (ρ[i]?).join = some x) : ρ[i]? = some (some x) := by
  cases h' : ρ[i]? with
  | none => rw [h'] at h; cases h
  | some o => rw [h'] at h; rw [show o = some x from h]
theorem augI_inv {o : Operator} {x y z : EV.D} (h : augI o x y = some z) : ∃ i j, x = .int i ∧ y = .int j ∧ ((o = .Add ∧ z = .int (i + j)) ∨ (o = .Sub ∧ z = .int (i - j))) := by
  cases x <;> simp only [augI, reduceCtorEq] at h
  cases y <;> simp only [augI, reduceCtorEq] at h
  cases o <;> simp only [Option.some.injEq, reduceCtorEq] at h
  · exact ⟨_, _, rfl, rfl, .inl ⟨rfl, h.symm⟩⟩
  · exact ⟨_, _, rfl, rfl, .inr ⟨rfl, h.symm⟩⟩
theorem aug_ip (op : Operator) : (∃ f : Int → Int → Int, PIp X op (ipI f) ∧ ∀ x y z, augI op x y = some z → ∃ i j, x = .int i ∧ y = .int j ∧ z = .int (f i j)) ∨ ∀ x y, augI op x y = none := by
  cases op with
  | Add => exact .inl ⟨_, ip_add, fun x y z h => by obtain ⟨i, j, rfl, rfl, h | h⟩ := augI_inv h; exact ⟨i, j, rfl, rfl, h.2⟩; cases h.1⟩
  | Sub => exact .inl ⟨_, ip_sub, fun x y z h => by obtain ⟨i, j, rfl, rfl, h | h⟩ := augI_inv h; cases h.1; exact ⟨i, j, rfl, rfl, h.2⟩⟩
  | _ => exact .inr fun x y => by cases x <;> cases y <;> rfl
theorem ss_false {st : Stmt} {f : En → Sto → Option Out} (h : ∀ ρ S, f ρ S = none) : SS k fl bs X st f :=
  ⟨fun _ _ _ => False, ⟨fun _ _ _ _ _ _ h => h.elim⟩, fun G m ρ S σ H o D s re e w => by rw [h] at e; cases e⟩
theorem ss_aug {i : Nat} {x : Str} {e : Expr} {op : Operator} {pos pos' : Pos} {fe : En → Sto → Rd} (hN : X.N.Nodup) (hi : X.N[i]? = some x) (hx : Loc X.env.scope x) (hf : X.fn x = true ∨ X.env.scope.names.lookup x = some .local) (he : SD k fl bs X e fe) :
    SS k fl bs X (.AugAssign (.Name x pos') op e pos) (fun ρ S => (ρ[i]?).join.bind fun x => (fe ρ S).bind fun r => (augI op x r.1).map fun v => .nx (ρ.set i (some v)) r.2) := by
  obtain ⟨t, p, l⟩ := he
  rcases aug_ip (X := X) op with ⟨f, hp, hi'⟩ | hn
  · refine ⟨_, ps_aug hN hi hx p hp hf, fun G m ρ S σ H o D s re e w => ?_⟩
    simp only [Option.bind_eq_some_iff, Option.map_eq_some_iff] at e
    obtain ⟨x, e0, ⟨y, S1⟩, e1, z, e2, rfl⟩ := e
    obtain ⟨v, e3, rv⟩ := re.2 i x (slot_of e0)
    refine ⟨v, e3, l G m ρ S σ H y S1 _ s re e1 fun G1 m1 u H1 x1 s1 r1 => ?_⟩
    obtain ⟨a, b, rfl, h2, rfl⟩ := hi' _ _ _ e2
    have h2 : y = .int b := h2
    subst h2
    exact ⟨_, _, rv.int_inv, RV.int_inv r1, w G1 m1 _ H1 x1 s1 ((re.ext x1).set RV.ofI)⟩
  · refine ss_false fun ρ S => ?_
    cases (ρ[i]?).join with
    | none => rfl
    | some x => cases h : fe ρ S with
      | none => simp [h]
      | some r => simp [h, hn]

/-! xs[i] op= e -/
theorem get_list : PGet X (fun x y H Q => rIxL X.K x y H Q) := by
  intro pins s σ H x y v u Q I rx ry h
  obtain ⟨p, xs, i, z, rfl, rfl, hq, he, q⟩ := h
  cases rx
  obtain ⟨t, rfl⟩ := ry
  obtain ⟨its, r, pl, hz⟩ := I.list hq
  obtain ⟨j, h1, h2, h3, h4, h5⟩ := atI_get he
  obtain ⟨w, ew, rw'⟩ := r.get h2
  have hl := r.length
  have hn := line63
  have fin : EP X pins σ Q w s := ⟨z, H, I, rw', q⟩
  by_cases h0 : 0 ≤ i
  · have hj : i.toNat = j := by
      rw [seqIndex_of h0 h5] at h1
      exact Option.some.inj h1
    exact wpAny_getItem_list pl.isList h0 (by omega) (by rw [hj]; simpa using ew) fin
  · have hj : (i + (its.toArray.size : Int)).toNat = j := by
      rw [seqIndex_neg (by omega) h4] at h1
      rw [List.size_toArray, ← hl]
      exact Option.some.inj h1
    exact wpAny_getItem_list_neg pl.isList (by omega) (by rw [List.size_toArray] <;> omega) (by omega) (by rw [hj]; simpa using ew) fin
theorem get_dict (hu : X.A.units + 1 < cLine) : PGet X rIxD := by
  intro pins s σ H x y v u Q I rx ry h
  obtain ⟨a, z, rfl, g, q⟩ := h
  obtain rfl : v = Value.ref a := rx
  exact d_getItem hu I g ry fun w' s3 I3 rw' => ⟨z, H, I3, rw', q⟩
theorem PGet.or {r r' : V → V → Hp → VK → Prop} (h : PGet X r) (h' : PGet X r') : PGet X (fun x y H Q => r x y H Q ∨ r' x y H Q) := by
  intro pins s σ H x y v u Q I rx ry q
  rcases q with q | q
  · exact h pins s σ H x y v u Q I rx ry q
  · exact h' pins s σ H x y v u Q I rx ry q
theorem itemAt_set (s : Sim k fl bs G m S H) {x y : EV.D} {v w : V} {d : EV.D} {Q : VK} (hK : k.K = X.K) (rx : RV k G m x v) (ry : RV k G m y w) (e : itemAt S x y = some d) (hl : ∃ n, x = .loc n) (hQ : ∀ u, RV k G m d u → Q u H) : rIxL X.K v w H Q ∨ rIxD v w H Q := by
  obtain ⟨n, rfl⟩ := hl
  have rx0 := rx
  simp only [RV] at rx
  obtain ⟨a, rfl, ha⟩ := rx
  have dk : (∃ c, S[n]? = some c ∧ (dget c y).join = some d) → rIxL X.K (.ref a) w H Q ∨ rIxD (.ref a) w H Q := fun ⟨c, h2, h3⟩ => by
    have h4 : dget c y = some (some d) := by
      cases h : dget c y with
      | none => rw [h] at h3; cases h3
      | some o => rw [h] at h3; rw [show o = some d from h3]
    obtain ⟨o', g, u, rfl, ru⟩ := dget_ok s h2 ha ry h4
    exact .inr ⟨a, u, rfl, g, hQ u ru⟩
  cases y with
  | int i =>
    simp only [itemAt] at e
    split at e
    · rename_i xs h1
      have h1 : lstOf S (.loc n) = some xs := h1
      obtain ⟨a', vs, e3, h2, h3⟩ := lstOf_ok s rx0 h1
      cases e3
      obtain ⟨u, h4, h5⟩ := atI_ok h3 e
      rw [ry.int_inv]
      exact .inl ⟨a, vs, i, u, rfl, rfl, hK ▸ h2, h4, hQ u h5⟩
    · split at e
      · rename_i c hc
        exact dk ⟨c, hc, e⟩
      · cases e
  | _ =>
    simp only [itemAt] at e
    split at e
    · rename_i c hc
      exact dk ⟨c, hc, e⟩
    · cases e
theorem ss_for {tg it : Expr} {body : List Stmt} {pos : Pos} {sl : List Nat} {fi : En → Sto → Option (Wk × Sto)} {ft : D → En → Sto → Option (En × Sto)} {fb : En → Sto → Option Out} (hx : X.xe = fun _ _ => False) (hc : X.calm = true)
    (hi : SI k fl bs X tg it fi) (hg : SG k fl bs X sl tg ft) (hb : SSs k fl bs X body fb) (hset : ∀ x, foldedSetIterable it X.env x = pure x) :
    SS k fl bs X (.For tg it body [] pos) (fun ρ S => (fi ρ S).bind fun w => forGo ft fb w.1.2 w.2 w.1.1 ρ w.2) := by
  obtain ⟨wi, pi, li⟩ := hi
  obtain ⟨g, pg, lg⟩ := hg
  obtain ⟨tb, pb, lb⟩ := hb
  refine ⟨_, ps_for (by rw [hx]; exact PassesOwn.never) hc pi pg pb hset, fun G m ρ S σ H o D s re e w => ?_⟩
  simp only [Option.bind_eq_some_iff] at e
  obtain ⟨⟨wl, S0⟩, e1, e2⟩ := e
  refine li G m ρ S σ H wl S0 _ s re e1 fun G0 m0 H0 J x0 s0 wk => ?_
  refine ⟨fun i n σc Hc => n + i = wl.1.length ∧ ∃ (G1 : Hp) (m1 : List Addr) (S1 : Sto) (ρ1 : En), Ext G0 m0 H0 G1 m1 Hc ∧ Sim k fl bs G1 m1 S1 Hc ∧ RE k G1 m1 ρ1 σc ∧ forGo ft fb wl.2 S0 (wl.1.drop i) ρ1 S1 = some o,
    ⟨wl.1.length, by omega, G0, m0, S0, ρ, Ext.refl _ _ _, s0, re.ext x0, by simpa using e2⟩, ?_⟩
  rintro i n σc Hc ⟨hn, G1, m1, S1, ρ1, x1, s1, re1, ec⟩
  cases hw : wl.1[i]? with
  | none =>
    have hl : wl.1.length ≤ i := by simpa using hw
    rw [List.drop_eq_nil_of_le hl] at ec
    simp only [forGo] at ec
    split at ec
    · rename_i st
      simp only [Option.some.injEq] at ec
      subst ec
      exact .inl ⟨(wk i G1 m1 S1 Hc x1.lat s1 st).2 hl, w G1 m1 σc Hc (x0.trans x1) s1 re1⟩
    · cases ec
  | some d =>
    have hl : i < wl.1.length := (List.getElem?_eq_some_iff.mp hw).1
    have hdrop : wl.1.drop i = d :: wl.1.drop (i + 1) := by
      rw [List.drop_eq_getElem_cons hl]
      congr 1
      rw [List.getElem?_eq_getElem hl] at hw
      exact Option.some.inj hw
    rw [hdrop] at ec
    simp only [forGo] at ec
    split at ec
    · rename_i st
      simp only [Option.bind_eq_some_iff] at ec
      obtain ⟨⟨ρ2, S2⟩, ec1, o2, ec2, ec3⟩ := ec
      obtain ⟨go, yl⟩ := (wk i G1 m1 S1 Hc x1.lat s1 st).1 d hw
      refine .inr ⟨go, fun σ' H' => ∃ m', m' < n ∧ (m' + (i + 1) = wl.1.length ∧ ∃ (G1 : Hp) (m1 : List Addr) (S1 : Sto) (ρ1 : En), Ext G0 m0 H0 G1 m1 H' ∧ Sim k fl bs G1 m1 S1 H' ∧ RE k G1 m1 ρ1 σ' ∧ forGo ft fb wl.2 S0 (wl.1.drop (i + 1)) ρ1 S1 = some o), fun σ' H' h => h, fun x H3 hy => ?_⟩
      obtain ⟨G3, x3, s3, r3⟩ := yl x H3 hy
      refine lg G3 m1 _ S1 _ H3 d x ρ2 S2 _ s3 (re1.ext x3) r3 ec1 fun G4 m4 σ4 H4 x4 s4 re4 _ => ?_
      refine lb G4 m4 ρ2 S2 σ4 H4 o2 _ s4 re4 ec2 ?_
      have x14 := x1.trans (x3.trans x4)
      cases o2 with
      | nx ρ5 S5 => exact fun G5 m5 σ5 H5 x5 s5 re5 => ⟨n - 1, by omega, by omega, G5, m5, S5, ρ5, x14.trans x5, s5, re5, ec3⟩
      | ct ρ5 S5 => exact fun G5 m5 σ5 H5 x5 s5 re5 => ⟨n - 1, by omega, by omega, G5, m5, S5, ρ5, x14.trans x5, s5, re5, ec3⟩
      | bk ρ5 S5 =>
        simp only [Option.some.injEq] at ec3
        subst ec3
        exact fun G5 m5 σ5 H5 x5 s5 re5 => w G5 m5 σ5 H5 (x0.trans (x14.trans x5)) s5 re5
      | rt d5 S5 =>
        simp only [Option.some.injEq] at ec3
        subst ec3
        exact fun G5 m5 v5 H5 x5 s5 r5 => w G5 m5 v5 H5 (x0.trans (x14.trans x5)) s5 r5
    · cases ec
theorem ss_whl {c : Expr} {body : List Stmt} {pos : Pos} {fc : En → Sto → Option (Bool × Sto)} {fb : En → Sto → Option Out} {N : Nat} (hx : X.xe = fun _ _ => False)
    (hc : ST k fl bs X c fc) (hb : SSs k fl bs X body fb) : SS k fl bs X (.While c body [] pos) (fun ρ S => whlGo fc fb N ρ S) := by
  obtain ⟨tc, pc, lc⟩ := hc
  obtain ⟨tb, pb, lb⟩ := hb
  refine ⟨_, ps_while (by rw [hx]; exact PassesOwn.never) pc pb, fun G m ρ S σ H o D s re e w => ?_⟩
  refine ⟨fun n σc Hc => ∃ (G1 : Hp) (m1 : List Addr) (S1 : Sto) (ρ1 : En), Ext G m H G1 m1 Hc ∧ Sim k fl bs G1 m1 S1 Hc ∧ RE k G1 m1 ρ1 σc ∧ whlGo fc fb n ρ1 S1 = some o, ⟨N, G, m, S, ρ, Ext.refl _ _ _, s, re, e⟩, ?_⟩
  rintro n σc Hc ⟨G1, m1, S1, ρ1, x1, s1, re1, ec⟩
  cases n with
  | zero => cases ec
  | succ n =>
    simp only [whlGo, Option.bind_eq_some_iff] at ec
    obtain ⟨⟨t, S2⟩, ec1, ec2⟩ := ec
    refine lc G1 m1 ρ1 S1 σc Hc t S2 _ s1 re1 ec1 fun G2 m2 H2 x2 s2 => ?_
    cases t with
    | false =>
      simp only [Bool.false_eq_true, if_false, Option.some.injEq] at ec2
      subst ec2
      exact iteF (w G2 m2 σc H2 (x1.trans x2) s2 (re1.ext x2))
    | true =>
      simp only [if_true, Option.bind_eq_some_iff] at ec2
      obtain ⟨o2, ec3, ec4⟩ := ec2
      refine iteT ⟨fun σ' H' => ∃ m', m' < n + 1 ∧ ∃ (G1 : Hp) (m1 : List Addr) (S1 : Sto) (ρ1 : En), Ext G m H G1 m1 H' ∧ Sim k fl bs G1 m1 S1 H' ∧ RE k G1 m1 ρ1 σ' ∧ whlGo fc fb m' ρ1 S1 = some o, fun σ' H' h => h, ?_⟩
      refine lb G2 m2 ρ1 S2 σc H2 o2 _ s2 (re1.ext x2) ec3 ?_
      have x12 := x1.trans x2
      cases o2 with
      | nx ρ5 S5 => exact fun G5 m5 σ5 H5 x5 s5 re5 => ⟨n, by omega, G5, m5, S5, ρ5, x12.trans x5, s5, re5, ec4⟩
      | ct ρ5 S5 => exact fun G5 m5 σ5 H5 x5 s5 re5 => ⟨n, by omega, G5, m5, S5, ρ5, x12.trans x5, s5, re5, ec4⟩
      | bk ρ5 S5 =>
        simp only [Option.some.injEq] at ec4
        subst ec4
        exact fun G5 m5 σ5 H5 x5 s5 re5 => w G5 m5 σ5 H5 (x12.trans x5) s5 re5
      | rt d5 S5 =>
        simp only [Option.some.injEq] at ec4
        subst ec4
        exact fun G5 m5 v5 H5 x5 s5 r5 => w G5 m5 v5 H5 (x12.trans x5) s5 r5
end
end EV
end
section
set_option maxRecDepth 100000
set_option autoImplicit false
/-! EV: stores into fields and by subscripts, calls, methods, new instances, comprehensions, two names at once. -/
namespace EV
open PySem L2

section
variable {k : Kx} {fl : List Str} {bs : List Nat} {X : Cx} {G G' : Hp} {m m' : List Addr} {S S' : Sto} {H H' : Hp}

theorem ss_augIx {b : Nat} {o i e : Expr} {op : Operator} {pos pos' : Pos} {fo fi fe : En → Sto → Rd} (hK : k.K = X.K) (hu : Ru X) (hb : ∀ b' ∈ bs, b' ≤ b) (ho : SD k fl bs X o fo) (hi : SD k fl bs X i fi) (he : SD k fl bs X e fe)
    (ha : ∀ ov iv new, augStore i ov iv new = (do holding [new, ov, iv] (setItem ov iv new); release [new, ov, iv] []; pure .next)) :
    SS k fl bs X (.AugAssign (.Subscript o i pos') op e pos) (fun ρ S => (fo ρ S).bind fun r => (fi ρ r.2).bind fun q => (itemAt q.2 r.1 q.1).bind fun old =>
      (fe ρ q.2).bind fun t => (augI op old t.1).bind fun v => (setIx b t.2 r.1 q.1 v).map fun S => .nx ρ S) := by
  obtain ⟨to, po, lo⟩ := ho
  obtain ⟨ti, pi, li⟩ := hi
  obtain ⟨te, pe, le⟩ := he
  have hu1 : X.A.units + 1 < cLine := Nat.lt_of_le_of_lt (Nat.add_le_add_left (by decide : 1 ≤ 64) _) hu
  rcases aug_ip (X := X) op with ⟨f, hp, hi'⟩ | hn
  · refine ⟨_, ps_augS po pi (PGet.or get_list (get_dict hu1)) pe hp (PSet.or set_list (set_dict hu1)) ha, fun G m ρ S σ H o D s re e w => ?_⟩
    simp only [Option.bind_eq_some_iff, Option.map_eq_some_iff] at e
    obtain ⟨⟨x, S1⟩, e1, ⟨y, S2⟩, e2, old, e3, ⟨z, S3⟩, e4, nw, e5, S4, e6, rfl⟩ := e
    refine lo G m ρ S σ H x S1 _ s re e1 fun G1 m1 vx H1 x1 s1 r1 => ?_
    refine li G1 m1 ρ S1 σ H1 y S2 _ s1 (re.ext x1) e2 fun G2 m2 vy H2 x2 s2 r2 => ?_
    have hloc : ∃ n, x = .loc n := by
      cases x with
      | loc n => exact ⟨n, rfl⟩
      | _ => simp [setIx] at e6
    refine itemAt_set s2 hK (RV.ext x2 r1) r2 e3 hloc fun vo ro => ?_
    refine le G2 m2 ρ S2 σ H2 z S3 _ s2 (re.ext (x1.trans x2)) e4 fun G3 m3 vz H3 x3 s3 r3 => ?_
    obtain ⟨a, b', rfl, h2, rfl⟩ := hi' _ _ _ e5
    have h2 : z = .int b' := h2
    subst h2
    refine ⟨a, b', ro.int_inv, RV.int_inv r3, ?_⟩
    exact setIx_ok hb s3 (RV.ext x3 (RV.ext x2 r1)) (RV.ext x3 r2) RV.ofI e6 fun H4 x4 s4 => w G3 m3 σ H4 (x1.trans (x2.trans (x3.trans x4))) s4 (re.ext (x1.trans (x2.trans (x3.trans x4))))
  · refine ss_false fun ρ S => ?_
    cases h1 : fo ρ S with
    | none => rfl
    | some r => cases h2 : fi ρ r.2 with
      | none => simp [h2]
      | some q => cases h3 : itemAt q.2 r.1 q.1 with
        | none => simp [h2, h3]
        | some old => cases h4 : fe ρ q.2 with
          | none => simp [h2, h3, h4]
          | some t => simp [h2, h3, h4, hn]

/-! fields -/
theorem nodup_len {α : Type} [DecidableEq α] : ∀ {l m : List α}, l.Nodup → (∀ x ∈ l, x ∈ m) → l.length ≤ m.length
  | [], m, _, _ => Nat.zero_le _
  | a :: l, m, hn, h => by
    have h1 := List.nodup_cons.mp hn
    have ha : a ∈ m := h a List.mem_cons_self
    have := nodup_len (l := l) (m := m.erase a) h1.2 fun x hx => (List.mem_erase_of_ne (fun (e : x = a) => h1.1 (e ▸ hx))).mpr (h x (List.mem_cons_of_mem _ hx))
    rw [List.length_erase_of_mem ha] at this
    have : 0 < m.length := List.length_pos_of_mem ha
    simp only [List.length_cons]
    omega
theorem keys_put (f : Str) (v : V) : ∀ {fs : List (Str × V)} {g : Str}, g ∈ (putF f v fs).map (·.1) → g = f ∨ g ∈ fs.map (·.1)
  | [], g, h => by simp [putF] at h; exact .inl h
  | (q, x) :: r, g, h => by
    rw [show putF f v ((q, x) :: r) = (if q = f then (q, v) :: r else (q, x) :: putF f v r) from rfl] at h
    by_cases hk : q = f
    · rw [if_pos hk] at h
      exact .inr (by simpa using h)
    · rw [if_neg hk, List.map_cons] at h
      rcases List.mem_cons.mp h with e | e
      · exact .inr (by rw [e]; simp)
      · rcases keys_put f v e with e | e
        · exact .inl e
        · exact .inr (List.mem_cons_of_mem _ e)
theorem nodup_put (f : Str) (v : V) : ∀ {fs : List (Str × V)}, (fs.map (·.1)).Nodup → ((putF f v fs).map (·.1)).Nodup
  | [], _ => by simp [putF]
  | (q, x) :: r, h => by
    rw [show putF f v ((q, x) :: r) = (if q = f then (q, v) :: r else (q, x) :: putF f v r) from rfl]
    rw [List.map_cons, List.nodup_cons] at h
    by_cases hk : q = f
    · rw [if_pos hk, List.map_cons, List.nodup_cons]; exact h
    · rw [if_neg hk, List.map_cons, List.nodup_cons]
      refine ⟨fun z => ?_, nodup_put f v h.2⟩
      rcases keys_put f v z with e | e
      · exact hk e
      · exact h.1 e
theorem getF_set {fs : List (Option EV.D)} {i j : Nat} {d : EV.D} : getF (setF fs i d) j = if j = i then some d else getF fs j := by
  unfold getF setF
  by_cases h : j = i
  · subst h
    rw [if_pos rfl, List.getElem?_set_self (by simp; omega)]
    rfl
  · rw [if_neg h, List.getElem?_set_ne (fun e => h e.symm)]
    by_cases hj : j < fs.length
    · rw [List.getElem?_append_left hj]
    · rw [List.getElem?_append_right (by omega), List.getElem?_eq_none (l := fs) (by omega)]
      by_cases h3 : j - fs.length < i + 1 - fs.length
      · rw [List.getElem?_replicate, if_pos h3]; rfl
      · rw [List.getElem?_replicate, if_neg h3]
theorem setFd_ok {b i : Nat} {f : Str} (hK : k.K = X.K) (c : ClsOk k fl) (hf : fl[i]? = some f) (hb : ∀ b' ∈ bs, b' ≤ b) (s : Sim k fl bs G m S H) {x d : EV.D} {v u : V} (rx : RV k G m x v) (rd : RV k G m d u) (e : setFd b S x i d = some S') :
    ∃ a C dx fs, v = .ref a ∧ H a = some (.ins C dx fs) ∧ Cls X.K C ∧ NoAttr X.K C f ∧ fs.length < 1000 ∧ Ext G m H G m (upd H a (.ins C dx (putF f u fs))) ∧ Sim k fl bs G m S' (upd H a (.ins C dx (putF f u fs))) := by
  cases x with
  | loc n =>
    simp only [RV] at rx
    obtain ⟨a, rfl, ha⟩ := rx
    simp only [setFd] at e
    split at e
    · rename_i hok
      split at e
      · rename_i C fs hc
        cases e
        obtain ⟨ca, dx, ws, h1, h2, h3, h4, hln, h5⟩ := s.cel n _ a hc ha
        have hlen : ws.length < 1000 := by
          have := nodup_len h3 h4
          have := c.few
          simp only [List.length_map] at *
          omega
        refine ⟨a, ca, dx, ws, rfl, h2, hK ▸ c.cls C ca h1, hK ▸ c.no C ca f h1 (List.mem_of_getElem? hf), hlen, ?_⟩
        have hin : ∀ {i' : Nat} {x' : Str}, fl[i']? = some x' → (x' = f ↔ i' = i) := fun {i' x'} hx => by
          obtain ⟨p1, q1⟩ := List.getElem?_eq_some_iff.mp hx
          obtain ⟨p2, q2⟩ := List.getElem?_eq_some_iff.mp hf
          constructor
          · intro z; exact (List.getElem_inj c.nd).mp (q1.trans (z.trans q2.symm))
          · intro z; subst z; exact q1.symm.trans q2
        refine (fun wr => ⟨wr.2, wr.1⟩) (s.write (c' := .ins C (setF fs i d)) ha hc ⟨ca, dx, _, h1, upd_same, nodup_put f u h3, fun g hg => ?_, ?_, fun i' x' hx => ?_⟩ fun b' hb' hnb => ?_)
        · rcases keys_put f u hg with z | z
          · subst z; exact List.mem_of_getElem? hf
          · exact h4 g z
        · have := (List.getElem?_eq_some_iff.mp hf).1
          simp only [setF, List.length_set, List.length_append, List.length_replicate]
          omega
        · rw [getF_set, lookup_putF]
          have := hin hx
          by_cases z : i' = i
          · rw [if_pos z, if_pos (this.mpr z)]; exact ⟨u, rfl, rd⟩
          · rw [if_neg z, if_neg (fun e => z (this.mp e))]; exact h5 i' x' hx
        · show (setF fs i d).all _ = true
          rw [List.all_eq_true]
          have h6 : fs.all _ = true := (s.lo b' hb').2 n _ hnb hc
          rw [List.all_eq_true] at h6
          intro o ho
          unfold setF at ho
          rcases List.mem_or_eq_of_mem_set ho with ho | ho
          · rcases List.mem_append.mp ho with ho | ho
            · exact h6 o ho
            · rw [List.eq_of_mem_replicate ho]
          · subst ho; exact okIn_ok hb hok b' hb' hnb
      · cases e
    · cases e
  | _ => cases e
theorem ss_fld {b i : Nat} {o e : Expr} {f : Str} {pos pos' : Pos} {fo fe : En → Sto → Rd} (hK : k.K = X.K) (c : ClsOk k fl) (hf : fl[i]? = some f) (hb : ∀ b' ∈ bs, b' ≤ b) (ho : SD k fl bs X o fo) (he : SD k fl bs X e fe)
    (hs : swapsWith e (some (.Attribute o f pos')) pos.line X.env = pure false) :
    SS k fl bs X (.Assign [.Attribute o f pos'] e pos) (fun ρ S => (fe ρ S).bind fun r => ((fo ρ r.2).bind fun q => (setFd b q.2 q.1 i r.1).map fun S => (ρ, S)).map fun q => .nx q.1 q.2) := by
  obtain ⟨to, po, lo⟩ := ho
  obtain ⟨te, pe, le⟩ := he
  refine ⟨_, ps_fld po pe hs, fun G m ρ S σ H o D s re e w => ?_⟩
  simp only [Option.bind_eq_some_iff, Option.map_eq_some_iff] at e
  obtain ⟨⟨d, S1⟩, e1, ⟨ρ', S3⟩, ⟨⟨x, S2⟩, e2, S3', e3, e4⟩, rfl⟩ := e
  cases e4
  refine le G m ρ S σ H d S1 _ s re e1 fun G1 m1 u H1 x1 s1 r1 => ?_
  refine lo G1 m1 ρ S1 σ H1 x S2 _ s1 (re.ext x1) e2 fun G2 m2 v H2 x2 s2 r2 => ?_
  obtain ⟨a, C, dx, fs, rfl, q1, q2, q3, q4, x3, s3⟩ := setFd_ok hK c hf hb s2 r2 (RV.ext x2 r1) e3
  exact ⟨a, C, dx, fs, rfl, q1, q2, q3, q4, w G2 m2 σ _ (x1.trans (x2.trans x3)) s3 (re.ext (x1.trans (x2.trans x3)))⟩
theorem in_ip {op : Operator} {f : Int → Int → Int} (h : PIp X op (ipI f)) : InOp X op (ipI f) := fun pins s σ H x y u v Q I rx ry q => h pins s σ H x y u v Q I rx ry q
theorem cls_ok (s : Sim k fl bs G m S H) {x : EV.D} {a : Addr} (rx : RV k G m x (.ref a)) (h : ∃ C dx fs, H a = some (.ins C dx fs)) (hl : ∃ n, x = .loc n) : ∃ C, clsAt S x = some C ∧ ∀ ca dx fs, H a = some (.ins ca dx fs) → k.ca C = some ca := by
  obtain ⟨n, rfl⟩ := hl
  obtain ⟨ca, dx, fs, h⟩ := h
  simp only [RV] at rx
  obtain ⟨a', e, ha⟩ := rx
  cases e
  have hn : n < S.length := s.len ▸ (List.getElem?_eq_some_iff.mp ha).1
  have hc : S[n]? = some S[n] := List.getElem?_eq_getElem hn
  have rc := s.cel n _ a hc ha
  simp only [clsAt]
  rw [hc]
  cases hS : S[n] with
  | ins C fs' =>
    rw [hS] at rc
    obtain ⟨ca', dx', ws, h1, h2, _⟩ := rc
    exact ⟨C, rfl, fun ca2 dx2 fs2 h3 => by rw [h2] at h3; cases h3; exact h1⟩
  | lst xs => rw [hS] at rc; obtain ⟨vs, h1, _⟩ := rc; rw [h] at h1; cases h1
  | dK xs => rw [hS] at rc; obtain ⟨vs, h1, _⟩ := rc; rw [h] at h1; cases h1
  | dT xs => rw [hS] at rc; obtain ⟨vs, h1, _⟩ := rc; rw [h] at h1; cases h1
theorem ss_augF {b i : Nat} {o e : Expr} {f : Str} {op : Operator} {pos pos' : Pos} {fo fe : En → Sto → Rd} (hK : k.K = X.K) (c : ClsOk k fl) (hf : fl[i]? = some f) (hb : ∀ b' ∈ bs, b' ≤ b) (ho : SD k fl bs X o fo) (he : SD k fl bs X e fe) :
    SS k fl bs X (.AugAssign (.Attribute o f pos') op e pos) (fun ρ S => (fo ρ S).bind fun r => (getFd r.2 r.1 i).bind fun old => (fe ρ r.2).bind fun t => (augI op old t.1).bind fun v => if clsAt t.2 r.1 = clsAt r.2 r.1 then (setFd b t.2 r.1 i v).map fun S => .nx ρ S else none) := by
  obtain ⟨to, po, lo⟩ := ho
  obtain ⟨te, pe, le⟩ := he
  rcases aug_ip (X := X) op with ⟨g, hp, hi'⟩ | hn
  · refine ⟨_, ps_fldaug po pe (in_ip hp), fun G m ρ S σ H o D s re e w => ?_⟩
    simp only [Option.bind_eq_some_iff, Option.map_eq_some_iff] at e
    obtain ⟨⟨x, S1⟩, e1, old, e2, ⟨z, S2⟩, e3, nw, e4, e5⟩ := e
    have hcl : clsAt S2 x = clsAt S1 x := by
      split at e5
      · assumption
      · cases e5
    rw [if_pos (show clsAt (z, S2).snd (x, S1).fst = clsAt (x, S1).snd (x, S1).fst from hcl)] at e5
    simp only [Option.map_eq_some_iff] at e5
    obtain ⟨S3, e5, rfl⟩ := e5
    refine lo G m ρ S σ H x S1 _ s re e1 fun G1 m1 v H1 x1 s1 r1 => ?_
    obtain ⟨a, C, ca, dx, ws, u, rfl, q1, q2, q3, q4⟩ := getFd_ok s1 hf r1 e2
    refine ⟨a, ca, dx, ws, u, rfl, q2, hK ▸ c.cls C ca q1, hK ▸ c.no C ca f q1 (List.mem_of_getElem? hf), q3, ?_⟩
    refine le G1 m1 ρ S1 σ H1 z S2 _ s1 (re.ext x1) e3 fun G2 m2 vz H2 x2 s2 r2 => ?_
    obtain ⟨i1, j1, rfl, h2, rfl⟩ := hi' _ _ _ e4
    have h2 : z = .int j1 := h2
    subst h2
    refine ⟨i1, j1, q4.int_inv, RV.int_inv r2, ?_⟩
    obtain ⟨a', C', dx', fs', e6, p1, p2, p3, p4, x3, s3⟩ := setFd_ok hK c hf hb s2 (RV.ext x2 r1) (RV.ofI (i := g i1 j1)) e5
    cases e6
    have hloc : ∃ n, x = .loc n := by
      cases x with
      | loc n => exact ⟨n, rfl⟩
      | _ => simp [getFd] at e2
    have hC : C' = ca := by
      obtain ⟨C0, h3, h4⟩ := cls_ok s1 r1 ⟨_, _, _, q2⟩ hloc
      obtain ⟨C1, h5, h6⟩ := cls_ok s2 (RV.ext x2 r1) ⟨_, _, _, p1⟩ hloc
      have h5 : clsAt S2 x = some C1 := h5
      have h3 : clsAt S1 x = some C0 := h3
      rw [h5, h3] at hcl
      cases hcl
      have h4 := h4 _ _ _ q2
      have h6 := h6 _ _ _ p1
      rw [h4] at h6
      exact (Option.some.inj h6).symm
    subst hC
    exact ⟨dx', fs', p1, p4, w G2 m2 σ _ (x1.trans (x2.trans x3)) s3 (re.ext (x1.trans (x2.trans x3)))⟩
  · refine ss_false fun ρ S => ?_
    cases h1 : fo ρ S with
    | none => rfl
    | some r => cases h2 : getFd r.2 r.1 i with
      | none => simp [h2]
      | some old => cases h4 : fe ρ r.2 with
          | none => simp [h2, h4]
          | some t => simp [h2, h4, hn]
end
end EV
end
section
set_option maxRecDepth 100000
set_option autoImplicit false
/-! EV: one reading for many contexts; calls, methods, new instances, comprehensions, two names at once. -/
namespace EV
open PySem L2

section
variable {k : Kx} {fl : List Str} {bs : List Nat} {X : Cx} {G G' : Hp} {m m' : List Addr} {S S' : Sto} {H H' : Hp}

/-! one reading, by the evaluator alone -/
def cD (k : Kx) (fl : List Str) (bs : List Nat) (f : En → Sto → Rd) : TE := fun σ H Q => ∃ G m ρ S r S', Sim k fl bs G m S H ∧ RE k G m ρ σ ∧ f ρ S = some (r, S') ∧ Wn k fl bs G m H S' (fun G' m' _ v => RV k G' m' r v) Q
theorem cD_l (f : En → Sto → Rd) : LD k fl bs (cD k fl bs f) f := fun G m ρ S σ H r S' Q s re e hQ => ⟨G, m, ρ, S, r, S', s, re, e, hQ⟩
theorem cD_p {e : Expr} {f : En → Sto → Rd} (h : SD k fl bs X e f) : PE X e (cD k fl bs f) := by
  obtain ⟨t, p, l⟩ := h
  exact ⟨fun pins s σ H Q I ⟨G, m, ρ, S, r, S', si, re, e, hQ⟩ => p.run pins s σ H Q I (l G m ρ S σ H r S' Q si re e hQ)⟩
def cT (k : Kx) (fl : List Str) (bs : List Nat) (f : En → Sto → Option (Bool × Sto)) : TT := fun σ H Q => ∃ G m ρ S r S', Sim k fl bs G m S H ∧ RE k G m ρ σ ∧ f ρ S = some (r, S') ∧ ∀ (G' : Hp) (m' : List Addr) (H' : Hp), Ext G m H G' m' H' → Sim k fl bs G' m' S' H' → Q r H'
theorem cT_l (f : En → Sto → Option (Bool × Sto)) : LT k fl bs (cT k fl bs f) f := fun G m ρ S σ H r S' Q s re e hQ => ⟨G, m, ρ, S, r, S', s, re, e, hQ⟩
theorem cT_p {e : Expr} {f : En → Sto → Option (Bool × Sto)} (h : ST k fl bs X e f) : PT X e (cT k fl bs f) := by
  obtain ⟨t, p, l⟩ := h
  exact ⟨fun pins s σ H Q I ⟨G, m, ρ, S, r, S', si, re, e, hQ⟩ => p.run pins s σ H Q I (l G m ρ S σ H r S' Q si re e hQ)⟩
theorem cTs_p {e : List Expr} {f : En → Sto → Option (Bool × Sto)} (h : STs k fl bs X e f) : PTs X e (cT k fl bs f) := by
  obtain ⟨t, p, l⟩ := h
  exact ⟨fun pins s σ H Q I ⟨G, m, ρ, S, r, S', si, re, e, hQ⟩ => p.run pins s σ H Q I (l G m ρ S σ H r S' Q si re e hQ)⟩
def cG (k : Kx) (fl : List Str) (bs : List Nat) (sl : List Nat) (f : EV.D → En → Sto → Option (En × Sto)) : TG := fun v σ H Q => ∃ G m ρ S d ρ' S', Sim k fl bs G m S H ∧ RE k G m ρ σ ∧ RV k G m d v ∧ f d ρ S = some (ρ', S') ∧
  ∀ (G' : Hp) (m' : List Addr) (σ' : L2.St) (H' : Hp), Ext G m H G' m' H' → Sim k fl bs G' m' S' H' → RE k G' m' ρ' σ' → (∀ own : List Nat, (∀ i ∈ sl, i ∈ own) → L2.wipe σ' own = L2.wipe σ own) → Q σ' H'
theorem cG_l (sl : List Nat) (f : EV.D → En → Sto → Option (En × Sto)) : LG k fl bs sl (cG k fl bs sl f) f := fun G m ρ S σ H d v ρ' S' Q s re rv e hQ => ⟨G, m, ρ, S, d, ρ', S', s, re, rv, e, hQ⟩
theorem cG_p {sl : List Nat} {e : Expr} {f : EV.D → En → Sto → Option (En × Sto)} (h : SG k fl bs X sl e f) : PG X e (cG k fl bs sl f) := by
  obtain ⟨t, p, l⟩ := h
  exact ⟨fun pins s σ H v u Q I rv ⟨G, m, ρ, S, d, ρ', S', si, re, r, e, hQ⟩ => p.run pins s σ H v u Q I rv (l G m ρ S σ H d v ρ' S' Q si re r e hQ)⟩

theorem le_new {t : TE} {f : En → Sto → Rv} (l : LE k fl bs t f) : LE k fl bs t (fun ρ S => (f ρ S).bind fun r => (r.1.place r.2).map fun q => (.d q.1, q.2)) := by
  refine fun G m ρ S σ H r S' Q s re e hQ => ?_
  simp only [Option.bind_eq_some_iff, Option.map_eq_some_iff, Prod.mk.injEq] at e
  obtain ⟨⟨v, S1⟩, e1, ⟨d, S2⟩, e2, rfl, rfl⟩ := e
  refine l G m ρ S σ H v S1 _ s re e1 fun G1 m1 w H1 x1 s1 r1 => ?_
  have fin : ∀ (a : Addr) (c : Cell), H a = none → a ∉ m1 → G1 a = none → RC k fl G1 m1 H1 a c → S2 = S1 ++ [c] → d = .loc S1.length → Q (.ref a) H1 := fun a c h0 h1 h2 h3 h4 h5 => by
    subst h4 h5
    obtain ⟨s2, x2⟩ := s1.place h1 h2 h3
    refine hQ G1 (m1 ++ [a]) _ H1 (x2 h0 x1) s2 ?_
    show RV k G1 (m1 ++ [a]) (.loc S1.length) (.ref a)
    simp only [RV]
    exact ⟨a, rfl, by rw [← s1.len]; simp⟩
  cases v with
  | d x => simp [Vl.place] at e2
  | fl xs =>
    simp only [Vl.place, Option.some.injEq, Prod.mk.injEq] at e2
    obtain ⟨a, vs, rfl, h0, h1, h2, h3, h4⟩ := r1
    exact fin a (.lst xs) h0 h3 h2 ⟨vs, h1, h4⟩ e2.2.symm e2.1.symm
  | fK xs =>
    simp only [Vl.place, Option.some.injEq, Prod.mk.injEq] at e2
    obtain ⟨a, vs, rfl, h0, h1, h2, h3, h4⟩ := r1
    exact fin a (.dK xs) h0 h3 h2 ⟨vs, h1, h4⟩ e2.2.symm e2.1.symm
  | fT xs =>
    simp only [Vl.place, Option.some.injEq, Prod.mk.injEq] at e2
    obtain ⟨a, vs, rfl, h0, h1, h2, h3, h4⟩ := r1
    exact fin a (.dT xs) h0 h3 h2 ⟨vs, h1, h4⟩ e2.2.symm e2.1.symm
/-! comprehensions -/
abbrev Blk (X Y : Cx) (scope : Scope) : Prop := ∃ (s : Shared) (H : Hp) (C : Addr) (cl : List (Str × Addr)) (fp : List Addr), Y = X.blk s H scope (compEnvC scope cl C X.env) fp
theorem se_comp {elt tg iter : Expr} {ifs : List Expr} {scope : Scope} {own : List (Str × Nat)} {pos : Pos} {sl : List Nat} {fi : En → Sto → Option (Wk × Sto)} {ft : EV.D → En → Sto → Option (En × Sto)} {fs : En → Sto → Option (Bool × Sto)} {fe : En → Sto → Rd}
    (hc : X.calm = true) (hN : X.N.Nodup) (hi : SI k fl bs X tg iter fi) (ok : BlkOk X.N X.env.scope scope own) (hsl : ∀ i ∈ sl, i ∈ own.map (·.2))
    (hg : ∀ Y, Blk X Y scope → SG k fl bs Y sl tg ft) (ht : ∀ Y, Blk X Y scope → STs k fl bs Y ifs fs) (he : ∀ Y, Blk X Y scope → SD k fl bs Y elt fe) (hs : ∀ x, foldedSetIterable iter X.env x = pure x) :
    SE k fl bs X (.ListComp elt [⟨tg, iter, ifs, 0⟩] scope pos) (fun ρ S => (fi ρ S).bind fun w => (compGo ft fs fe w.1.2 w.2 (wipeE ρ (own.map (·.2))) w.1.1 [] w.2).map fun r => (.fl r.1, r.2)) := by
  obtain ⟨wi, pi, li⟩ := hi
  exact ⟨_, pe_lc hc hN pi ok (fun s H C cl fp => cG_p (hg _ ⟨s, H, C, cl, fp, rfl⟩)) (fun s H C cl fp => cTs_p (ht _ ⟨s, H, C, cl, fp, rfl⟩)) (fun s H C cl fp => cD_p (he _ ⟨s, H, C, cl, fp, rfl⟩)) hs,
    comp_ok li (cG_l sl ft) (cT_l fs) (cD_l fe) hsl⟩
/-- name = [..], the name a local, on one line -/
theorem ss_setC {i : Nat} {y : Str} {py : Pos} {elt tg iter : Expr} {ifs : List Expr} {scope : Scope} {own : List (Str × Nat)} {pos spos : Pos} {sl : List Nat} {fi : En → Sto → Option (Wk × Sto)} {ft : EV.D → En → Sto → Option (En × Sto)} {fs : En → Sto → Option (Bool × Sto)} {fe : En → Sto → Rd}
    (hc : X.calm = true) (hN : X.N.Nodup) (hy : X.N[i]? = some y) (hyl : X.env.scope.names.lookup y = some .local) (hsw : swapsWith (.ListComp elt [⟨tg, iter, ifs, 0⟩] scope pos) (some (.Name y py)) spos.line X.env = pure true)
    (hi : SI k fl bs X tg iter fi) (ok : BlkOk X.N X.env.scope scope own) (hsl : ∀ i ∈ sl, i ∈ own.map (·.2))
    (hg : ∀ Y, Blk X Y scope → SG k fl bs Y sl tg ft) (ht : ∀ Y, Blk X Y scope → STs k fl bs Y ifs fs) (he : ∀ Y, Blk X Y scope → SD k fl bs Y elt fe) (hs : ∀ x, foldedSetIterable iter X.env x = pure x) :
    SS k fl bs X (.Assign [.Name y py] (.ListComp elt [⟨tg, iter, ifs, 0⟩] scope pos) spos) (fun ρ S => (dOf ((fi ρ S).bind fun w => (compGo ft fs fe w.1.2 w.2 (wipeE ρ (own.map (·.2))) w.1.1 [] w.2).map fun r => (.fl r.1, r.2))).bind fun r =>
      (if i < ρ.length then some (ρ.set i (some r.1), r.2) else none).map fun q => .nx q.1 q.2) := by
  obtain ⟨wi, pi, li⟩ := hi
  exact ss_setT (ps_setLc hc hN hy hyl hsw pi ok (fun s H C cl fp => cG_p (hg _ ⟨s, H, C, cl, fp, rfl⟩)) (fun s H C cl fp => cTs_p (ht _ ⟨s, H, C, cl, fp, rfl⟩)) (fun s H C cl fp => cD_p (he _ ⟨s, H, C, cl, fp, rfl⟩)) hs) (comp_ok li (cG_l sl ft) (cT_l fs) (cD_l fe) hsl)
theorem ss_setCn {i : Nat} {y : Str} {py : Pos} {elt tg iter : Expr} {ifs : List Expr} {scope : Scope} {own : List (Str × Nat)} {pos spos : Pos} {sl : List Nat} {fi : En → Sto → Option (Wk × Sto)} {ft : EV.D → En → Sto → Option (En × Sto)} {fs : En → Sto → Option (Bool × Sto)} {fe : En → Sto → Rd}
    (hc : X.calm = true) (hN : X.N.Nodup) (hy : X.N[i]? = some y) (hyl : X.env.scope.names.lookup y = some .local) (hsw : swapsWith (.ListComp elt [⟨tg, iter, ifs, 0⟩] scope pos) (some (.Name y py)) spos.line X.env = pure true)
    (hi : SI k fl bs X tg iter fi) (ok : BlkOk X.N X.env.scope scope own) (hsl : ∀ i ∈ sl, i ∈ own.map (·.2))
    (hg : ∀ Y, Blk X Y scope → SG k fl bs Y sl tg ft) (ht : ∀ Y, Blk X Y scope → STs k fl bs Y ifs fs) (he : ∀ Y, Blk X Y scope → SD k fl bs Y elt fe) (hs : ∀ x, foldedSetIterable iter X.env x = pure x) :
    SS k fl bs X (.Assign [.Name y py] (.ListComp elt [⟨tg, iter, ifs, 0⟩] scope pos) spos) (fun ρ S => (dOf (((fi ρ S).bind fun w => (compGo ft fs fe w.1.2 w.2 (wipeE ρ (own.map (·.2))) w.1.1 [] w.2).map fun r => (Vl.fl r.1, r.2)).bind fun r => (r.1.place r.2).map fun q => (.d q.1, q.2))).bind fun r =>
      (if i < ρ.length then some (ρ.set i (some r.1), r.2) else none).map fun q => .nx q.1 q.2) := by
  obtain ⟨wi, pi, li⟩ := hi
  exact ss_setT (ps_setLc hc hN hy hyl hsw pi ok (fun s H C cl fp => cG_p (hg _ ⟨s, H, C, cl, fp, rfl⟩)) (fun s H C cl fp => cTs_p (ht _ ⟨s, H, C, cl, fp, rfl⟩)) (fun s H C cl fp => cD_p (he _ ⟨s, H, C, cl, fp, rfl⟩)) hs) (le_new (comp_ok li (cG_l sl ft) (cT_l fs) (cD_l fe) hsl))

/-! calls -/
/-- what a def promises -/
def spR (k : Kx) (fl : List Str) (pg : Pg) (j f : Nat) : Sp := fun vs H Q _ => ∃ (bs : List Nat) (b : Nat) (G : Hp) (m : List Addr) (ds : List EV.D) (S : Sto) (d : EV.D) (S' : Sto),
  (∀ b' ∈ bs, b' ≤ b) ∧ Sim k fl bs G m S H ∧ RVs k G m ds vs ∧ run pg j f ds b S = some (d, S') ∧ ∀ (G' : Hp) (m' : List Addr) (v : V) (H' : Hp), Ext G m H G' m' H' → Sim k fl bs G' m' S' H' → RV k G' m' d v → Q v H'
theorem starEach_all {env : Env} {pos : Pos} {es : List Expr} (h : es.all noStar = true) : (backTo pos (starEach es env)).any (·.1) = false := (star_all h).1
theorem la_call {pg : Pg} {j f b : Nat} (hb : ∀ b' ∈ bs, b' ≤ b) {t : TA} {g : En → Sto → Option (List EV.D × Sto)} (l : LA k fl bs t g) :
    LE k fl bs (tCall (spR k fl pg j f) [] C8.E0 t) (fun ρ S => (g ρ S).bind fun r => (run pg j f r.1 b r.2).map fun q => (.d q.1, q.2)) := by
  intro G m ρ S σ H z S' Q s re e hQ
  simp only [Option.bind_eq_some_iff, Option.map_eq_some_iff, Prod.mk.injEq] at e
  obtain ⟨⟨xs, S1⟩, e1, ⟨d, S2⟩, e2, rfl, rfl⟩ := e
  refine l G m ρ S σ H xs S1 _ s re e1 fun G1 m1 vs H1 x1 s1 r1 => ?_
  exact ⟨bs, b, G1, m1, xs, S1, d, S2, hb, s1, by rw [List.append_nil]; exact r1, e2, fun G' m' v H' x' s' r' => hQ G' m' v H' (x1.trans x') s' r'⟩
theorem la_nil : LA k fl bs tNil (fun _ S => some ([], S)) := fun G m ρ S σ H r S' Q s re e hQ => by
  simp only [Option.some.injEq, Prod.mk.injEq] at e
  obtain ⟨rfl, rfl⟩ := e
  exact hQ G m [] H (Ext.refl _ _ _) s .nil
theorem se_call0 {pg : Pg} {j f b : Nat} {x : Str} {p pos : Pos} {n : Nat} (hb : ∀ b' ∈ bs, b' ≤ b) (C : C8.Cal X.prog X.w X.K X.mg X.base n x (spR k fl pg j f) []) (hr : Room n X.A) (hg : Gl X x)
    (hdb : (x == ("__debug__" : Str)) = false) :
    SE k fl bs X (.Call (.Name x p) [] [] pos) (fun ρ S => (run pg j f [] b S).map fun q => (.d q.1, q.2)) := by
  obtain ⟨fa, fd, ps, ds, F, hm, kp, bi, d⟩ := C.ex
  exact ⟨_, pe_call0 F hr hg hm kp bi d C8.pass0 hdb, la_call hb la_nil⟩
theorem se_call {pg : Pg} {j f b : Nat} {x : Str} {e : Expr} {es : List Expr} {p pos : Pos} {g : En → Sto → Option (List EV.D × Sto)} {n : Nat} (hb : ∀ b' ∈ bs, b' ≤ b) (C : C8.Cal X.prog X.w X.K X.mg X.base n x (spR k fl pg j f) []) (hr : Room n X.A) (hg : Gl X x)
    (hdb : (x == ("__debug__" : Str)) = false) (hs : (e :: es).all noStar = true) (ha : SA k fl bs X (e :: es) g) :
    SE k fl bs X (.Call (.Name x p) (e :: es) [] pos) (fun ρ S => (g ρ S).bind fun r => (run pg j f r.1 b r.2).map fun q => (.d q.1, q.2)) := by
  obtain ⟨t, pa, l⟩ := ha
  simp only [List.all_cons, Bool.and_eq_true] at hs
  exact ⟨_, C8.pe_c C hr (Nat.le_refl _) hg pa hdb (star_no hs.1) (starEach_all hs.2), la_call hb l⟩
/-- the call of the evaluator's own kind -/
abbrev clOf (pg : Pg) (j : Nat) : Cl := ⟨run pg j, pg.con, pg.mth, pg.ini⟩
theorem la_make {pg : Pg} {j f b C : Nat} {ca : Addr} (hb : ∀ b' ∈ bs, b' ≤ b) (hC : k.ca C = some ca) (hf : pg.ini C = some f) {t : TA} {g : En → Sto → Option (List EV.D × Sto)} (l : LA k fl bs t g) :
    LE k fl bs (tMake ca (spR k fl pg j f) [] C8.E0 t) (fun ρ S => (g ρ S).bind fun r => (mkD (clOf pg j) b C r.1 r.2).map fun q => (.d q.1, q.2)) := by
  intro G m ρ S σ H z S' Q s re e hQ
  simp only [Option.bind_eq_some_iff, Option.map_eq_some_iff, Prod.mk.injEq] at e
  obtain ⟨⟨xs, S1⟩, e1, ⟨d, S2⟩, e2, rfl, rfl⟩ := e
  refine l G m ρ S σ H xs S1 _ s re e1 fun G1 m1 vs H1 x1 s1 r1 => ?_
  intro x dx hx hdx hne
  unfold mkD at e2
  simp only [hf, Option.bind_eq_some_iff] at e2
  obtain ⟨⟨dr, S3⟩, e3, e4⟩ := e2
  obtain ⟨s2, x2⟩ := s1.laid (o := .own x) hdx
  have hx2 : (upd H1 dx (.own x)) x = none := by rw [upd_ne (fun z => hne z.symm)]; exact hx
  obtain ⟨s3, x3⟩ := s2.laid (o := .ins ca dx []) hx2
  have hgx : G1 x = none := s1.gnone hx
  have hmx : x ∉ m1 := s1.no_m hx
  obtain ⟨s4, y4⟩ := s3.place (p := x) (c := .ins C []) hmx hgx ⟨ca, dx, [], hC, upd_same, by simp, by simp, by simp, fun i x' hx' => by simp [getF]⟩
  have x4 := y4 hx (x2.trans x3)
  have hself : RV k G1 (m1 ++ [x]) (.loc S1.length) (.ref x) := by
    simp only [RV]
    exact ⟨x, rfl, by rw [← s1.len, List.getElem?_append_right (Nat.le_refl _)]; simp⟩
  refine ⟨bs, b, G1, m1 ++ [x], .loc S1.length :: xs, S1 ++ [.ins C []], dr, S3, hb, s4, by rw [List.append_nil]; exact .cons hself (r1.ext x4), e3, fun G' m' v H' x' s' r' => ?_⟩
  cases dr <;> simp only [reduceCtorEq] at e4
  simp only [Option.some.injEq, Prod.mk.injEq] at e4
  obtain ⟨rfl, rfl⟩ := e4
  refine ⟨by simpa only [RV] using r', hQ G' m' _ H' (x1.trans (x4.trans x')) s' (RV.ext x' hself)⟩
theorem se_mk0 {pg : Pg} {j f b C : Nat} {ca : Addr} {x : Str} {p pos : Pos} {n : Nat} (hb : ∀ b' ∈ bs, b' ≤ b) (hC : k.ca C = some ca) (hf : pg.ini C = some f) (M : C8.Mak X.prog X.w X.K X.mg X.base n x ca (spR k fl pg j f) []) (hr : Room (n + 1) X.A) (hg : Gl X x)
    (hdb : (x == ("__debug__" : Str)) = false) :
    SE k fl bs X (.Call (.Name x p) [] [] pos) (fun ρ S => (mkD (clOf pg j) b C [] S).map fun q => (.d q.1, q.2)) := by
  obtain ⟨fa, fd, ps, ds, Mk, F, hm, bi, d⟩ := M.ex
  exact ⟨_, pe_make0 Mk F hr hg hm bi d C8.pass0 hdb, la_make hb hC hf la_nil⟩
theorem se_mk {pg : Pg} {j f b C : Nat} {ca : Addr} {x : Str} {e : Expr} {es : List Expr} {p pos : Pos} {g : En → Sto → Option (List EV.D × Sto)} {n : Nat} (hb : ∀ b' ∈ bs, b' ≤ b) (hC : k.ca C = some ca) (hf : pg.ini C = some f) (M : C8.Mak X.prog X.w X.K X.mg X.base n x ca (spR k fl pg j f) [])
    (hr : Room (n + 1) X.A) (hg : Gl X x) (hdb : (x == ("__debug__" : Str)) = false) (hs : (e :: es).all noStar = true) (ha : SA k fl bs X (e :: es) g) :
    SE k fl bs X (.Call (.Name x p) (e :: es) [] pos) (fun ρ S => (g ρ S).bind fun r => (mkD (clOf pg j) b C r.1 r.2).map fun q => (.d q.1, q.2)) := by
  obtain ⟨t, pa, l⟩ := ha
  simp only [List.all_cons, Bool.and_eq_true] at hs
  exact ⟨_, C8.pe_mk M hr (Nat.le_refl _) hg pa hdb (star_no hs.1) (starEach_all hs.2), la_make hb hC hf l⟩

/-! methods -/
/-- one class's method -/
theorem la_meth {pg : Pg} {j f b C mi : Nat} {ca : Addr} {name : Str} (hb : ∀ b' ∈ bs, b' ≤ b) (hC : k.ca C = some ca) (hf : pg.mth C mi = some f) (hno : name ∉ fl) {to : TE} {fo : En → Sto → Rd} (lo : LD k fl bs to fo) {t : TA} {g : En → Sto → Option (List EV.D × Sto)} (l : LA k fl bs t g) :
    ∀ (G : Hp) (m : List Addr) (ρ : En) (S : Sto) (σ : L2.St) (H : Hp) (x : EV.D) (S1 : Sto) (xs : List EV.D) (S2 : Sto) (d : EV.D) (S' : Sto) (Q : VK), Sim k fl bs G m S H → RE k G m ρ σ → fo ρ S = some (x, S1) → clsAt S1 x = some C → g ρ S1 = some (xs, S2) → run pg j f (x :: xs) b S2 = some (d, S') →
      Wn k fl bs G m H S' (fun G' m' H' v => RL k H G' m' H' (.d d) v) Q → tMeth ca name (spR k fl pg j f) [] C8.E0 to t σ H Q := by
  intro G m ρ S σ H x S1 xs S2 d S' Q s re e1 ec e2 e3 hQ
  refine lo G m ρ S σ H x S1 _ s re e1 fun G1 m1 v H1 x1 s1 r1 => ?_
  have r1 : RV k G1 m1 x v := r1
  cases x with
  | loc n =>
    have r1' := r1
    simp only [RV] at r1'
    obtain ⟨a, rfl, ha⟩ := r1'
    simp only [clsAt] at ec
    split at ec
    · rename_i C' fs hc
      cases ec
      obtain ⟨ca', dx, ws, h1, h2, h3, h4, _, h5⟩ := s1.cel n _ a hc ha
      rw [hC] at h1
      cases h1
      have hl : ws.lookup name = none := by
        cases hh : ws.lookup name with
        | none => rfl
        | some v => exact absurd (h4 name (List.mem_map.mpr ⟨_, PySem.mem_of_lookup hh, rfl⟩)) hno
      refine ⟨a, dx, ws, rfl, h2, hl, l G1 m1 ρ S1 σ H1 xs S2 _ s1 (re.ext x1) e2 fun G2 m2 vs H2 x2 s2 r2 => ?_⟩
      exact ⟨bs, b, G2, m2, _, S2, d, S', hb, s2, by rw [List.append_nil]; exact .cons (RV.ext x2 r1) r2, e3, fun G' m' v' H' x' s' r' => hQ G' m' v' H' (x1.trans (x2.trans x')) s' r'⟩
    · cases ec
  | _ => simp [clsAt] at ec
/-- what a class must have for its method to be called -/
structure MtOk (k : Kx) (fl : List Str) (X : Cx) (pg : Pg) (n j : Nat) (name : Str) (mi : Nat) : Prop where
  no : name ∉ fl
  all : ∀ C f, pg.mth C mi = some f → ∃ a, k.ca C = some a ∧ C8.Met X.prog X.w X.K X.mg X.base n a name (spR k fl pg j f) []
theorem methD_some {c : Cl} {S : Sto} {o : EV.D} {mi f : Nat} (h : methD c S o mi = some f) : ∃ C, clsAt S o = some C ∧ c.mth C mi = some f := by
  unfold methD at h
  cases o <;> simp only [reduceCtorEq] at h
  split at h
  · rename_i n C fs hc
    exact ⟨C, by simp only [clsAt]; rw [hc], h⟩
  · cases h
theorem mcall_eq {o : Expr} {name : Str} {apos pos : Pos} {es : List Expr} {env : Env} (hb : notSup o = true) (hs : es.all noStar = true) (hl : es.length < 30) (hline : (apos.endLine == pos.line) = true) :
    eval (.Call (.Attribute o name apos) es [] pos) env = (do
      let ov ← eval o env
      standAt apos.atName
      let (f, first) ← holding [ov] (getMethod ov name (do return (← importBound o env).getD true))
      callWith pos f first (backTo pos (starEach es env)) (backToKw pos (keywordEach [] env))) := by
  rw [arm_eval_Call, base_of hb]
  have hform : methodCallForm (es.length + ([] : List Keyword).length) (backTo pos (starEach es env)) (backToKw pos (keywordEach [] env)) = true := by
    unfold methodCallForm
    rw [(star_all (env := env) (pos := pos) hs).2]
    simp only [Bool.true_and, Bool.and_eq_true, decide_eq_true_eq]
    refine ⟨rfl, ?_⟩
    have hk : backToKw pos (keywordEach [] env) = [] := rfl
    rw [hk]
    simpa using hl
  have hpos : methodCallPos true o env apos pos = pure pos := by unfold methodCallPos; simp [hline]
  unfold methodCall
  rw [hform]
  simp only [hpos, pure_bind]
  rfl
theorem se_meth0 {pg : Pg} {j b mi : Nat} {name : Str} {o : Expr} {apos pos : Pos} {fo : En → Sto → Rd} {n : Nat} (hb : ∀ b' ∈ bs, b' ≤ b) (M : MtOk k fl X pg n j name mi) (hr : Room n X.A) (ho : SD k fl bs X o fo) (hsup : notSup o = true)
    (hline : (apos.endLine == pos.line) = true) :
    SE k fl bs X (.Call (.Attribute o name apos) [] [] pos) (fun ρ S => (fo ρ S).bind fun r => (methD (clOf pg j) r.2 r.1 mi).bind fun f => (run pg j f [r.1] b r.2).map fun q => (.d q.1, q.2)) := by
  obtain ⟨to, po, lo⟩ := ho
  have key : ∀ C f a, pg.mth C mi = some f → k.ca C = some a → PE X (.Call (.Attribute o name apos) [] [] pos) (tMeth a name (spR k fl pg j f) [] C8.E0 to tNil) := fun C f a h1 h2 => by
    obtain ⟨a', h3, Mt⟩ := M.all C f h1
    rw [h2] at h3; cases h3
    obtain ⟨fa, fd, ps, ds, hc, hm, F, bi, d⟩ := Mt.ex
    exact pe_meth0 po hc hm F hr bi d C8.pass0 (mcall_eq hsup rfl (by decide) hline)
  refine ⟨fun σ H Q => ∃ C f a, pg.mth C mi = some f ∧ k.ca C = some a ∧ tMeth a name (spR k fl pg j f) [] C8.E0 to tNil σ H Q, ⟨fun pins s σ H Q I ⟨C, f, a, h1, h2, h3⟩ => (key C f a h1 h2).run pins s σ H Q I h3⟩, fun G m ρ S σ H z S' Q s re e hQ => ?_⟩
  simp only [Option.bind_eq_some_iff, Option.map_eq_some_iff, Prod.mk.injEq] at e
  obtain ⟨⟨x, S1⟩, e1, f, e2, ⟨d, S2⟩, e3, rfl, rfl⟩ := e
  obtain ⟨C, h1, h2⟩ := methD_some e2
  obtain ⟨a, h3, Mt⟩ := M.all C f h2
  exact ⟨C, f, a, h2, h3, la_meth hb h3 h2 M.no lo la_nil G m ρ S σ H x S1 [] S1 d S2 Q s re e1 h1 rfl e3 hQ⟩
theorem se_meth {pg : Pg} {j b mi : Nat} {name : Str} {o e : Expr} {es : List Expr} {apos pos : Pos} {fo : En → Sto → Rd} {g : En → Sto → Option (List EV.D × Sto)} {n : Nat} (hb : ∀ b' ∈ bs, b' ≤ b) (M : MtOk k fl X pg n j name mi) (hr : Room n X.A) (ho : SD k fl bs X o fo) (hsup : notSup o = true)
    (hline : (apos.endLine == pos.line) = true) (hs : (e :: es).all noStar = true) (hl : (e :: es).length < 30) (ha : SA k fl bs X (e :: es) g) :
    SE k fl bs X (.Call (.Attribute o name apos) (e :: es) [] pos) (fun ρ S => (fo ρ S).bind fun r => (methD (clOf pg j) r.2 r.1 mi).bind fun f => (g ρ r.2).bind fun q => (run pg j f (r.1 :: q.1) b q.2).map fun q => (.d q.1, q.2)) := by
  obtain ⟨to, po, lo⟩ := ho
  obtain ⟨t, pa, l⟩ := ha
  have hs' := hs
  simp only [List.all_cons, Bool.and_eq_true] at hs'
  have key : ∀ C f a, pg.mth C mi = some f → k.ca C = some a → PE X (.Call (.Attribute o name apos) (e :: es) [] pos) (tMeth a name (spR k fl pg j f) [] C8.E0 to t) := fun C f a h1 h2 => by
    obtain ⟨a', h3, Mt⟩ := M.all C f h1
    rw [h2] at h3; cases h3
    obtain ⟨fa, fd, ps, ds, hc, hm, F, bi, d⟩ := Mt.ex
    exact pe_meth po hc hm F hr bi d C8.pass0 pa (star_no hs'.1) (starEach_all hs'.2) (mcall_eq hsup hs hl hline)
  refine ⟨fun σ H Q => ∃ C f a, pg.mth C mi = some f ∧ k.ca C = some a ∧ tMeth a name (spR k fl pg j f) [] C8.E0 to t σ H Q, ⟨fun pins s σ H Q I ⟨C, f, a, h1, h2, h3⟩ => (key C f a h1 h2).run pins s σ H Q I h3⟩, fun G m ρ S σ H z S' Q s re e hQ => ?_⟩
  simp only [Option.bind_eq_some_iff, Option.map_eq_some_iff, Prod.mk.injEq] at e
  obtain ⟨⟨x, S1⟩, e1, f, e2, ⟨xs, S2⟩, e4, ⟨d, S3⟩, e3, rfl, rfl⟩ := e
  obtain ⟨C, h1, h2⟩ := methD_some e2
  obtain ⟨a, h3, Mt⟩ := M.all C f h2
  exact ⟨C, f, a, h2, h3, la_meth hb h3 h2 M.no lo l G m ρ S σ H x S1 xs S2 d S3 Q s re e1 h1 e4 e3 hQ⟩

/-! two or three names at once -/
def bkOf (sc : Scope) : ScopeKind := if sc.kind.isAnnotationScope then .function else sc.kind
def swNames (ts : List Expr) (sc : Scope) : List Str := ts.filterMap fun
    | .Name id pos => if sc.names.lookup id == some .local && pos.line == (ts.head?.map (·.pos.line)).getD 0 then some id else none
    | _ => none
def swS (tgs : List Expr) (v : Expr) (sc : Scope) : Option (Option (List Str)) := match tgs, v with
  | [.Tuple ts _ _], .Tuple vs _ _ | [.List ts _], .Tuple vs _ _ =>
    if !(ts.length == 2 || ts.length == 3) || vs.length != ts.length || bkOf sc != .function then some none
    else if vs.any fun | .Starred .. => true | _ => false then some none
    else if (swNames ts sc).length != ts.length || (swNames ts sc).eraseDups.length != (swNames ts sc).length then some none
    else if vs.all (foldedForSure 8) then some none
    else if vs.all (constantsAlone 8) then none
    else some (some (swNames ts sc))
  | _, _ => some none
def isStar (e : Expr) : Bool := match e with | .Starred .. => true | _ => false
theorem sw_tup {ts vs : List Expr} {a c : Nat} {b d : Pos} {env : Env} : swappedStores [.Tuple ts a b] (.Tuple vs c d) env =
    (if (!(ts.length == 2 || ts.length == 3) || vs.length != ts.length || bkOf env.scope != .function) = true then pure none
    else if (vs.any isStar) = true then pure none
    else if ((swNames ts env.scope).length != ts.length || (swNames ts env.scope).eraseDups.length != (swNames ts env.scope).length) = true then pure none
    else if vs.all (foldedForSure 8) = true then pure none
    else if vs.all (constantsAlone 8) = true then (do unsupported "assign.tuple-of-constant-expressions:order-of-the-stores"; pure (some (swNames ts env.scope)))
    else pure (some (swNames ts env.scope))) := by
  unfold swappedStores
  rfl
end
end EV
end
section
set_option maxRecDepth 100000
set_option autoImplicit false
/-! EV: slices with a step. -/
namespace EV
open PySem PySem.Spec PyProof.Rows L2

theorem every2_pick {α : Type} : ∀ (l : List α), (List.range ((l.length + 1) / 2)).filterMap (fun k => l[2 * k]?) = every2 l
  | [] => by simp [every2]
  | [x] => by simp [every2, List.range_succ]
  | x :: y :: l => by
    have e : ((x :: y :: l).length + 1) / 2 = (l.length + 1) / 2 + 1 := by simp only [List.length_cons]; omega
    rw [e, List.range_succ_eq_map, List.filterMap_cons, List.filterMap_map]
    show x :: _ = x :: every2 l
    rw [← every2_pick l]
    rfl
theorem every2_from {α : Type} (l : List α) (i : Nat) : (List.range ((l.length - i + 1) / 2)).filterMap (fun k => l[i + 2 * k]?) = every2 (l.drop i) := by
  rw [← every2_pick, List.length_drop]
  congr 1
  funext k
  rw [List.getElem?_drop]
section
variable {k : Kx} {G : Hp} {m : List Addr}
theorem RVs.every2 : ∀ {d : List EV.D} {v : List V}, RVs k G m d v → RVs k G m (every2 d) (every2 v)
  | [], v, h => by rw [h.inv0]; exact .nil
  | [x], v, h => by
    obtain ⟨y, r, rfl, g, q⟩ := h.inv1
    rw [q.inv0]; exact .one g
  | x :: y :: d, v, h => by
    obtain ⟨a, r, rfl, g, q⟩ := h.inv1
    obtain ⟨b, r, rfl, _, q⟩ := q.inv1
    exact .cons g (RVs.every2 q)
end
theorem vals_every2 : ∀ {vs : List V} {us : List Value}, Vals vs us → Vals (every2 vs) (every2 us)
  | [], us, h => by cases h; exact .nil
  | [x], us, h => by
    cases h with
    | cons a b => cases b; exact .cons a .nil
  | x :: y :: vs, us, h => by
    cases h with
    | cons a b =>
      cases b with
      | cons c d => exact .cons a (vals_every2 d)
theorem every2_len {α : Type} : ∀ l : List α, (every2 l).length ≤ l.length
  | [] => Nat.le_refl _
  | [x] => Nat.le_refl _
  | x :: y :: l => by
    show (every2 l).length + 1 ≤ l.length + 2
    have := every2_len l
    omega
theorem pick_by2 (items : Array Value) (lo : Option Int) : slicePick items lo none (some 2) = (every2 (items.toList.drop (HT.sIx items.size 0 lo))).toArray := by
  unfold slicePick
  have e1 : (sliceBounds lo none (some 2) items.size).1 = ((HT.sIx items.size 0 lo : Nat) : Int) := by
    cases lo with
    | none => simp [sliceBounds, HT.sIx]
    | some i =>
      simp only [sliceBounds, HT.sIx, Option.getD_some, show (2 : Int) > 0 by decide, if_true]
      by_cases h : i < 0
      · simp only [h, if_true] <;> omega
      · simp only [h, if_false] <;> omega
  have e2 : (sliceBounds lo none (some 2) items.size).2.1 = (items.size : Int) := by simp [sliceBounds]
  have e3 : (sliceBounds lo none (some 2) items.size).2.2 = 2 := rfl
  rw [e1, e2, e3]
  congr 1
  unfold sliceRange
  simp only [show (2 : Int) > 0 by decide, if_true]
  rw [← every2_from, Array.length_toList]
  have hle : HT.sIx items.size 0 lo ≤ items.size := HT.sIx_le _ _ (Nat.zero_le _) lo
  generalize HT.sIx items.size 0 lo = i at hle ⊢
  have ec : (if (i : Int) < (items.size : Int) then ((items.size : Int) - (i : Int) + 2 - 1) / 2 else 0).toNat = (items.size - i + 1) / 2 := by
    split <;> omega
  rw [ec, List.filterMap_map]
  congr 1
  funext q
  show items[((i : Int) + 2 * (q : Int)).toNat]? = items.toList[i + 2 * q]?
  rw [Array.getElem?_toList, show ((i : Int) + 2 * (q : Int)).toNat = i + 2 * q by omega]
/-! tuples -/
section
variable {prog : Program} {w : World} {A : Around} {E : Value → Shared → Prop} {s : Shared}
open HT in
theorem sliceApplied_st {sl : Addr} {vl vu vs : Value} {lo hi : Option Int} {c : Int} {n : Nat} {Q : Int × Int × Nat → Shared → Prop} (hs : s.heap.IsSliceOf sl vl vu vs) (pl : IsPart vl lo) (pu : IsPart vu hi) (ps : IsPart vs (some c)) (hc : c ≠ 0)
    (h : Q ((Builtin.Slice.sliceAdjust lo hi c (n : Int)).1, c, Builtin.Slice.slicePlaces (Builtin.Slice.sliceAdjust lo hi c (n : Int)).1 (Builtin.Slice.sliceAdjust lo hi c (n : Int)).2 c) s) : wpAny (model prog w) A (Builtin.Slice.sliceApplied (.ref sl) (pure (n : Int))) Q E s := by
  obtain ⟨os, hos, hcs, hds⟩ := id hs
  unfold Builtin.Slice.sliceApplied Builtin.Slice.sliceFields
  refine wpAny_bind (wpAny_bind (wpAny_field hos hds (x := vl) rfl (wpAny_bind (wpAny_field hos hds (x := vu) rfl (wpAny_bind (wpAny_field hos hds (x := vs) rfl (wpAny_pure ?_)))))))
  refine wpAny_bind (slicePart_ ps ?_)
  show wpAny _ _ (if (c == 0) = true then _ else _) _ _ s
  rw [if_neg (by simpa using hc)]
  refine wpAny_bind (slicePart_ pl (wpAny_bind (slicePart_ pu (wpAny_bind (wpAny_pure ?_)))))
  exact wpAny_pure h
theorem getItem_tuple_st {t sl : Addr} {items : Array Value} {vl vu vs : Value} {lo hi : Option Int} {c : Int} {Q : Value → Shared → Prop} (ht : PyProof.Rows.IsTup s.heap t items) (hs : s.heap.IsSliceOf sl vl vu vs) (pl : IsPart vl lo) (pu : IsPart vu hi) (ps : IsPart vs (some c)) (hc : c ≠ 0) (hc1 : c ≠ 1)
    {ys : Array Value} (hy : ((List.range (Builtin.Slice.slicePlaces (Builtin.Slice.sliceAdjust lo hi c (items.size : Int)).1 (Builtin.Slice.sliceAdjust lo hi c (items.size : Int)).2 c)).filterMap fun (k : Nat) => items[((Builtin.Slice.sliceAdjust lo hi c (items.size : Int)).1 + (k : Int) * c).toNat]?).toArray = ys)
    (hsz : ys.size ≤ sizeLine)
    (h : Q (.ref s.heap.objs.size) { s with heap := s.heap.push { cls := .type "tuple", data := .seq ys } }) : wpAny (model prog w) A (getItem (.ref t) (.ref sl)) Q E s := by
  subst hy
  obtain ⟨os, hos, hcs, hds⟩ := id hs
  have hTs : s.TypeIs (.ref sl) "slice" := ⟨os, hos, hcs⟩
  unfold getItem
  try with_reducible refine wpAny_holding ?_
  first | refine wpAny_bind (wpAny_pure ?_) | skip
  refine wpAny_bind (wpAny_sequenceKey ht.typeIs (by decide) ?_)
  refine wpAny_bind (wpAny_callSpecial?_slot (name := Str.ofString "__getitem__") ht.typeIs PyProof.Rows.slot_tuple_getitem
    (wpAny_call_entry PyProof.Rows.slot_tuple_getitem ht.typeIs PyProof.Rows.entry_tuple_getitem ?_ (PyProof.Rows.args_tuple_getitem _ _)))
  show wpAny _ _ (Builtin.Tuple.tupleItemsOf (.ref t) >>= _) _ _ s
  refine wpAny_bind (PyProof.Rows.tupleItemsOf_ ht ?_)
  refine wpAny_bind (wpAny_typeOf hTs ?_)
  rw [if_pos (by decide)]
  refine wpAny_bind (sliceApplied_st hs pl pu ps hc ?_)
  have hno : ¬ (((Builtin.Slice.sliceAdjust lo hi c (items.size : Int)).1 == 0 && c == 1 && (Builtin.Slice.slicePlaces (Builtin.Slice.sliceAdjust lo hi c (items.size : Int)).1 (Builtin.Slice.sliceAdjust lo hi c (items.size : Int)).2 c) == items.size) = true) := by
    intro q
    rw [Bool.and_eq_true, Bool.and_eq_true] at q
    exact hc1 (eq_of_beq q.1.2)
  show wpAny _ _ (if ((Builtin.Slice.sliceAdjust lo hi c (items.size : Int)).1 == 0 && c == 1 && (Builtin.Slice.slicePlaces (Builtin.Slice.sliceAdjust lo hi c (items.size : Int)).1 (Builtin.Slice.sliceAdjust lo hi c (items.size : Int)).2 c) == items.size) = true then _ else _) _ _ s
  rw [if_neg hno]
  first
    | exact wpAny_bind (m := Builtin.Tuple.tupleExact _) (wpAny_newObj_type (wpAny_pure ⟨_, rfl, wpAny_pure h⟩) hsz)
    | exact wpAny_bind (m := Builtin.Tuple.tupleExact _) (wpAny_newObj_type (wpAny_bind (wpAny_pure (wpAny_pure ⟨_, rfl, wpAny_pure h⟩))) hsz)
    | exact wpAny_bind (wpAny_bind (m := Builtin.Tuple.tupleExact _) (wpAny_newObj_type (wpAny_pure (wpAny_pure ⟨_, rfl, wpAny_pure h⟩)) hsz))
    | exact wpAny_bind (wpAny_bind (m := Builtin.Tuple.tupleExact _) (wpAny_newObj_type (wpAny_pure ⟨_, rfl, wpAny_pure h⟩) hsz))
end
theorem tup_by2 (items : Array Value) (lo : Option Int) : ((List.range (Builtin.Slice.slicePlaces (Builtin.Slice.sliceAdjust lo none 2 (items.size : Int)).1 (Builtin.Slice.sliceAdjust lo none 2 (items.size : Int)).2 2)).filterMap fun (k : Nat) => items[((Builtin.Slice.sliceAdjust lo none 2 (items.size : Int)).1 + (k : Int) * 2).toNat]?).toArray =
    (every2 (items.toList.drop (HT.sIx items.size 0 lo))).toArray := by
  have e1 : (Builtin.Slice.sliceAdjust lo none 2 (items.size : Int)).1 = ((HT.sIx items.size 0 lo : Nat) : Int) := by
    unfold Builtin.Slice.sliceAdjust
    simp only [show ¬ ((2 : Int) < 0) by decide, if_false]
    cases lo with
    | none => rfl
    | some v => exact HT.clip_eq v _ 0
  have e2 : (Builtin.Slice.sliceAdjust lo none 2 (items.size : Int)).2 = (items.size : Int) := by
    unfold Builtin.Slice.sliceAdjust
    simp only [show ¬ ((2 : Int) < 0) by decide, if_false]
  rw [e1, e2]
  congr 1
  rw [← every2_from, Array.length_toList]
  have hle : HT.sIx items.size 0 lo ≤ items.size := HT.sIx_le _ _ (Nat.zero_le _) lo
  generalize HT.sIx items.size 0 lo = i at hle ⊢
  have ec : Builtin.Slice.slicePlaces (i : Int) (items.size : Int) 2 = (items.size - i + 1) / 2 := by
    unfold Builtin.Slice.slicePlaces
    simp only [show (2 : Int) > 0 by decide, if_true]
    split <;> omega
  rw [ec]
  congr 1
  funext q
  show items[((i : Int) + (q : Int) * 2).toNat]? = items.toList[i + 2 * q]?
  rw [Array.getElem?_toList, show ((i : Int) + (q : Int) * 2).toNat = i + 2 * q by omega]
theorem tup_back (items : Array Value) : ((List.range (Builtin.Slice.slicePlaces (Builtin.Slice.sliceAdjust none none (-1) (items.size : Int)).1 (Builtin.Slice.sliceAdjust none none (-1) (items.size : Int)).2 (-1))).filterMap fun (k : Nat) => items[((Builtin.Slice.sliceAdjust none none (-1) (items.size : Int)).1 + (k : Int) * (-1)).toNat]?).toArray = items.toList.reverse.toArray := by
  rw [← PySem.W.krv_pick]
  unfold slicePick
  rw [PySem.W.krv_bounds]
  congr 1
  show _ = (sliceRange ((items.size : Int) - 1) (-1) (-1)).filterMap (items[·]?)
  unfold sliceRange
  have e1 : (Builtin.Slice.sliceAdjust none none (-1) (items.size : Int)) = ((items.size : Int) - 1, -1) := rfl
  rw [e1, List.filterMap_map]
  have ec : Builtin.Slice.slicePlaces ((items.size : Int) - 1) (-1) (-1) = (if (-1 : Int) > 0 then (if (items.size : Int) - 1 < -1 then (-1 - ((items.size : Int) - 1) + -1 - 1) / -1 else 0) else if (items.size : Int) - 1 > -1 then ((items.size : Int) - 1 - -1 - -1 - 1) / (- -1) else 0).toNat := by
    unfold Builtin.Slice.slicePlaces
    simp only [show ¬ ((-1 : Int) > 0) by decide, if_false]
    split <;> simp <;> omega
  show List.filterMap _ (List.range (Builtin.Slice.slicePlaces ((items.size : Int) - 1) (-1) (-1))) = _
  rw [ec]
  congr 1
  funext q
  show items[((items.size : Int) - 1 + (q : Int) * -1).toNat]? = items[((items.size : Int) - 1 + -1 * (q : Int)).toNat]?
  rw [show (q : Int) * -1 = -1 * (q : Int) by omega]

/-! the rules -/
/-- x[lo:hi:c] by values, c a number -/
def SlC (X : Cx) (c : Int) (r : V → Option Int → Option Int → Hp → VK → Prop) : Prop :=
  ∀ (pins : List (Addr × Obj)) (s : Shared) (σ : L2.St) (H : Hp) (x : V) (v vl vu vs : Value) (lo hi : Option Int) (sl : Addr) (Q : VK), Inv X pins σ H s → RelV x v → s.heap.IsSliceOf sl vl vu vs → IsPart vl lo → IsPart vu hi → IsPart vs (some c) → r x lo hi H Q →
    ∃ T id, typeLookup (.type T) "__getitem__" = pure (some (.builtin id)) ∧ s.TypeIs v T ∧ wpAny (model X.prog X.w) X.A (getItem v (.ref sl)) (EP X pins σ Q) X.xe s
theorem SlC.or {X : Cx} {c : Int} {r r' : V → Option Int → Option Int → Hp → VK → Prop} (h : SlC X c r) (h' : SlC X c r') : SlC X c (fun x lo hi H Q => r x lo hi H Q ∨ r' x lo hi H Q) := by
  intro pins s σ H x v vl vu vs lo hi sl Q I rx hs pl pu ps q
  rcases q with q | q
  · exact h pins s σ H x v vl vu vs lo hi sl Q I rx hs pl pu ps q
  · exact h' pins s σ H x v vl vu vs lo hi sl Q I rx hs pl pu ps q
section
variable {X : Cx} {e : Expr} {te : TE} {lo hi : Option Expr} {tl th : TO} {p2 pos : Pos}
theorem pe_sliceC {r : V → Option Int → Option Int → Hp → VK → Prop} {c : Int} {st : Expr} (hr : SlC X c r) (he : PE X e te) (hl : PO X lo tl) (hu : PO X hi th) (hst : PO X (some st) (fun σ H Q => Q (some c) H)) :
    PE X (.Subscript e (.Slice lo hi (some st) p2) pos) (tSl r te tl th) := by
  refine ⟨fun pins s σ H Q I h => ?_⟩
  refine PyProof.Rows.Subscript_ (thn (he.run pins s σ H _ I h) fun v s1 ⟨x, H1, I1, r1, q1⟩ => ?_)
  refine wpAny_Slice (thn (hl.run pins s1 σ H1 _ I1 q1) fun vl s2 ⟨l, H2, I2, pl, q2⟩ => thn (hu.run pins s2 σ H2 _ I2 q2) fun vu s3 ⟨u, H3, I3, pu, q3⟩ => ?_)
  refine thn (hst.run pins s3 σ H3 (fun o H4 => o = some c ∧ H4 = H3) I3 ⟨rfl, rfl⟩) fun vs s4 ⟨o, H4, I4, ps, eo, e4⟩ => ?_
  subst eo e4
  have I5 : Inv X pins σ H4 { s4 with heap := s4.heap.push { cls := .type "slice", data := .fields #[vl, vu, vs] } } := I4.kept (t' := s4.toks) fun b ob q => Heap.get?_push_of_some _ q
  obtain ⟨T, id, hT, ht, hg⟩ := hr pins { s4 with heap := s4.heap.push { cls := .type "slice", data := .fields #[vl, vu, vs] } } σ H4 x v vl vu vs l u s4.heap.objs.size Q I5 r1 (Heap.IsSliceOf.new ..) pl pu ps q3
  show wpAny (model X.prog X.w) X.A (subscriptTail e (.Slice lo hi (some st) p2) v (.ref s4.heap.objs.size)) (EP X pins σ Q) X.xe { s4 with heap := s4.heap.push { cls := .type "slice", data := .fields #[vl, vu, vs] } }
  exact tail_any (ops := [v, .ref s4.heap.objs.size]) ht hT hg (by with_unfolding_all rfl)
def rS2L (K : PySem.W.Frag) : V → Option Int → Option Int → Hp → VK → Prop := fun x lo hi H Q => hi = none ∧ ∃ a xs, x = .ref a ∧ SqL K H a xs ∧ ∀ p, H p = none → Q (.ref p) (upd H p (.lst (every2 (xs.drop (HT.sIx xs.length 0 lo)))))
def rS2T (K : PySem.W.Frag) : V → Option Int → Option Int → Hp → VK → Prop := fun x lo hi H Q => hi = none ∧ ∃ a xs, x = .ref a ∧ SqT K H a xs ∧ ∀ p, H p = none → Q (.ref p) (upd H p (.tup (every2 (xs.drop (HT.sIx xs.length 0 lo)))))
def rSbL (K : PySem.W.Frag) : V → Option Int → Option Int → Hp → VK → Prop := fun x lo hi H Q => lo = none ∧ hi = none ∧ ∃ a xs, x = .ref a ∧ SqL K H a xs ∧ ∀ p, H p = none → Q (.ref p) (upd H p (.lst xs.reverse))
def rSbT (K : PySem.W.Frag) : V → Option Int → Option Int → Hp → VK → Prop := fun x lo hi H Q => lo = none ∧ hi = none ∧ ∃ a xs, x = .ref a ∧ SqT K H a xs ∧ ∀ p, H p = none → Q (.ref p) (upd H p (.tup xs.reverse))
theorem every2_drop_len {α : Type} (l : List α) (i : Nat) : (every2 (l.drop i)).length ≤ l.length := by
  have := every2_len (l.drop i)
  rw [List.length_drop] at this
  omega
theorem sl_list2 : SlC X 2 (rS2L X.K) := by
  intro pins s σ H x v vl vu vs lo hi sl Q I rx hs pl pu ps h
  obtain ⟨rfl, a, xs, rfl, hx, q⟩ := h
  cases rx
  obtain ⟨its, r, ht, hz⟩ := I.list hx
  have hlen := r.length
  refine ⟨"list", _, slot_list_getitem.lookup, ht.isList.typeIs, ?_⟩
  refine wpAny_getItem_list_slice ht.isList hs pl pu ps (by simp) ?_ (by rw [List.size_toArray] <;> omega)
  rw [pick_by2, show its.toArray.size = xs.length by rw [List.size_toArray, hlen]]
  refine ⟨.ref s.heap.objs.size, _, I.laid (t' := s.toks) (o := .lst _) (fun b ob q => Heap.get?_push_of_some _ q) (Nat.le_refl _) ?_, rfl, q _ (I.hok.fresh (Nat.le_refl _))⟩
  exact ⟨Nat.le_trans (every2_drop_len _ _) hz, _, 0, vals_every2 (r.drop _), Heap.get?_push_size _ rfl⟩
theorem sl_listb : SlC X (-1) (rSbL X.K) := by
  intro pins s σ H x v vl vu vs lo hi sl Q I rx hs pl pu ps h
  obtain ⟨rfl, rfl, a, xs, rfl, hx, q⟩ := h
  cases rx
  obtain ⟨its, r, ht, hz⟩ := I.list hx
  have hlen := r.length
  refine ⟨"list", _, slot_list_getitem.lookup, ht.isList.typeIs, ?_⟩
  refine wpAny_getItem_list_slice ht.isList hs pl pu ps (by simp) ?_ (by rw [List.size_toArray] <;> omega)
  rw [PySem.W.krv_pick]
  refine ⟨.ref s.heap.objs.size, _, I.laid (t' := s.toks) (o := .lst xs.reverse) (fun b ob q => Heap.get?_push_of_some _ q) (Nat.le_refl _) ?_, rfl, q _ (I.hok.fresh (Nat.le_refl _))⟩
  exact ⟨by rw [List.length_reverse]; exact hz, _, 0, r.reverse, Heap.get?_push_size _ rfl⟩
theorem sl_tup2 : SlC X 2 (rS2T X.K) := by
  intro pins s σ H x v vl vu vs lo hi sl Q I rx hs pl pu ps h
  obtain ⟨rfl, a, xs, rfl, hx, q⟩ := h
  cases rx
  obtain ⟨its, r, ht, hz⟩ := I.tuple hx
  have hlen := r.length
  have hl : (every2 (xs.drop (HT.sIx xs.length 0 lo))).length ≤ sizeLine := Nat.le_trans (every2_drop_len _ _) hz
  have rr : Vals (every2 (xs.drop (HT.sIx xs.length 0 lo))) (every2 (its.drop (HT.sIx xs.length 0 lo))) := vals_every2 (r.drop _)
  refine ⟨"tuple", _, PyProof.Rows.slot_tuple_getitem.lookup, ht.typeIs, ?_⟩
  cases pu
  refine getItem_tuple_st ht hs pl .none ps (by decide) (by decide) (tup_by2 _ _) ?_ ?_
  · rw [List.size_toArray, show its.toArray.size = xs.length by rw [List.size_toArray, hlen], ← rr.length]; exact hl
  · rw [show its.toArray.size = xs.length by rw [List.size_toArray, hlen]]
    refine ⟨.ref s.heap.objs.size, _, I.laid (t' := s.toks) (o := .tup _) (fun b ob q => Heap.get?_push_of_some _ q) (Nat.le_refl _) ?_, rfl, q _ (I.hok.fresh (Nat.le_refl _))⟩
    exact ⟨hl, _, rr, PyProof.Rows.IsTup.new _ _⟩
theorem sl_tupb : SlC X (-1) (rSbT X.K) := by
  intro pins s σ H x v vl vu vs lo hi sl Q I rx hs pl pu ps h
  obtain ⟨rfl, rfl, a, xs, rfl, hx, q⟩ := h
  cases rx
  obtain ⟨its, r, ht, hz⟩ := I.tuple hx
  have hlen := r.length
  have hl : xs.reverse.length ≤ sizeLine := by rw [List.length_reverse]; exact hz
  refine ⟨"tuple", _, PyProof.Rows.slot_tuple_getitem.lookup, ht.typeIs, ?_⟩
  cases pl
  cases pu
  refine getItem_tuple_st ht hs .none .none ps (by decide) (by decide) (tup_back _) ?_ ?_
  · rw [List.size_toArray, List.length_reverse, ← hlen]; exact hz
  · refine ⟨.ref s.heap.objs.size, _, I.laid (t' := s.toks) (o := .tup xs.reverse) (fun b ob q => Heap.get?_push_of_some _ q) (Nat.le_refl _) ?_, rfl, q _ (I.hok.fresh (Nat.le_refl _))⟩
    exact ⟨hl, _, r.reverse, PyProof.Rows.IsTup.new _ _⟩
end
section
variable {k : Kx} {fl : List Str} {bs : List Nat} {X : Cx}
theorem se_slS {stp : Stp} {st a : Expr} {c : Int} {lo hi : Option Expr} {p2 pos : Pos} {fa : En → Sto → Rd} {fl' fh : En → Sto → Option (Option Int × Sto)} (hK : k.K = X.K) (hs : (stp = .by2 ∧ c = 2) ∨ (stp = .back ∧ c = -1)) (hst : PO X (some st) (fun σ H Q => Q (some c) H))
    (ha : SD k fl bs X a fa) (hl : SO k fl bs X lo fl') (hh : SO k fl bs X hi fh) :
    SE k fl bs X (.Subscript a (.Slice lo hi (some st) p2) pos) (fun ρ S => (fa ρ S).bind fun r => (fl' ρ r.2).bind fun l => (fh ρ l.2).bind fun h => (slice h.2 r.1 l.1 h.1 stp).map fun v => (v, h.2)) := by
  rcases hs with ⟨rfl, rfl⟩ | ⟨rfl, rfl⟩
  · refine se_slG (r := fun x l h H Q => rS2T X.K x l h H Q ∨ rS2L X.K x l h H Q) (fun ta tl th pa pl ph => pe_sliceC (sl_tup2.or sl_list2) pa pl ph hst) ?_ ha hl hh
    intro G m S H x v l h z Q s r e hQ
    cases h with
    | some _ => simp [slice] at e
    | none =>
      simp only [slice] at e
      split at e
      · rename_i xs h1
        cases e
        obtain ⟨a, vs, rfl, h2, h3⟩ := tupOf_ok s r h1
        refine .inl ⟨rfl, a, vs, rfl, hK ▸ h2, ?_⟩
        have hc : cutD xs l none = xs.drop (HT.sIx xs.length 0 l) := by
          unfold cutD; rw [HT.sIx_none, List.take_of_length_le (by rw [List.length_drop]; exact Nat.le_refl _)]
        rw [hc] at hQ
        rw [← h3.length]
        exact new_tup s (h3.drop _).every2 hQ
      · split at e
        · rename_i xs h1
          cases e
          obtain ⟨a, vs, rfl, h2, h3⟩ := lstOf_ok s r h1
          refine .inr ⟨rfl, a, vs, rfl, hK ▸ h2, ?_⟩
          have hc : cutD xs l none = xs.drop (HT.sIx xs.length 0 l) := by
            unfold cutD; rw [HT.sIx_none, List.take_of_length_le (by rw [List.length_drop]; exact Nat.le_refl _)]
          rw [hc] at hQ
          rw [← h3.length]
          exact new_lst s (h3.drop _).every2 hQ
        · cases e
  · refine se_slG (r := fun x l h H Q => rSbT X.K x l h H Q ∨ rSbL X.K x l h H Q) (fun ta tl th pa pl ph => pe_sliceC (sl_tupb.or sl_listb) pa pl ph hst) ?_ ha hl hh
    intro G m S H x v l h z Q s r e hQ
    cases l with
    | some _ => simp [slice] at e
    | none =>
      cases h with
      | some _ => simp [slice] at e
      | none =>
        simp only [slice] at e
        split at e
        · rename_i xs h1
          cases e
          obtain ⟨a, vs, rfl, h2, h3⟩ := tupOf_ok s r h1
          exact .inl ⟨rfl, rfl, a, vs, rfl, hK ▸ h2, new_tup s h3.reverse hQ⟩
        · split at e
          · rename_i xs h1
            cases e
            obtain ⟨a, vs, rfl, h2, h3⟩ := lstOf_ok s r h1
            exact .inr ⟨rfl, rfl, a, vs, rfl, hK ▸ h2, new_lst s h3.reverse hQ⟩
          · cases e
/-- the step as it is written -/
def stpC (s : Stp) (e : Option Expr) : Bool := match s, e with
  | .one, none => true
  | .by2, some (.Constant (.int i) _ _) => i == 2
  | .back, some (.UnaryOp .USub (.Constant (.int i) _ _) _) => i == 1
  | _, _ => false
theorem se_sl {stp : Stp} {st : Option Expr} {a : Expr} {lo hi : Option Expr} {p2 pos : Pos} {fa : En → Sto → Rd} {fl' fh : En → Sto → Option (Option Int × Sto)} (hK : k.K = X.K) (hs : stpC stp st = true)
    (ha : SD k fl bs X a fa) (hl : SO k fl bs X lo fl') (hh : SO k fl bs X hi fh) :
    SE k fl bs X (.Subscript a (.Slice lo hi st p2) pos) (fun ρ S => (fa ρ S).bind fun r => (fl' ρ r.2).bind fun l => (fh ρ l.2).bind fun h => (slice h.2 r.1 l.1 h.1 stp).map fun v => (v, h.2)) := by
  unfold stpC at hs
  split at hs
  · exact se_sl1 hK ha hl hh
  · rename_i i _ _
    have := beq_iff_eq.mp hs
    subst this
    exact se_slS hK (.inl ⟨rfl, rfl⟩) ⟨fun pins s σ H Q I h => (po_some (X := X) (pe_int (i := 2))).run pins s σ H Q I ⟨2, rfl, h⟩⟩ ha hl hh
  · rename_i i _ _ _
    have := beq_iff_eq.mp hs
    subst this
    exact se_slS hK (.inr ⟨rfl, rfl⟩) ⟨fun pins s σ H Q I h => (po_some (X := X) (pe_un un_neg (pe_int (i := 1)))).run pins s σ H Q I ⟨1, rfl, -1, rfl, h⟩⟩ ha hl hh
  · cases hs
end
end EV
end
section
set_option maxRecDepth 100000
set_option autoImplicit false
/-! EV: comprehensions with two fors; dict comprehensions. -/
namespace EV
open PySem L2
section
variable {k : Kx} {fl : List Str} {bs : List Nat} {X : Cx}
/-- an object that nobody holds stands beside the world -/
structure DIv (k : Kx) (fl : List Str) (bs : List Nat) (G0 : Hp) (m0 : List Addr) (H0 : Hp) (D : Addr) (o : HO) (G : Hp) (m : List Addr) (S : Sto) (H : Hp) : Prop where
  x : Ext G0 m0 H0 G m H
  s : Sim k fl bs G m S H
  h : H D = some o
  g : G D = none
  n : D ∉ m
section
variable {G0 G G' H0 H H' : Hp} {m0 m m' : List Addr} {S S' : Sto} {D : Addr} {o : HO}
theorem DIv.to (d : DIv k fl bs G0 m0 H0 D o G m S H) (x : Ext G m H G' m' H') (s : Sim k fl bs G' m' S' H') : DIv k fl bs G0 m0 H0 D o G' m' S' H' := by
  obtain ⟨q1, q2, q3⟩ := x.fr D _ d.g d.n d.h
  exact ⟨d.x.trans x, s, q1, q2, q3⟩
theorem DIv.put (d : DIv k fl bs G0 m0 H0 D o G m S H) (hD : H0 D = none) (o' : HO) : DIv k fl bs G0 m0 H0 D o' G m S (upd H D o') := by
  refine ⟨⟨d.x.sg, d.x.pm, fun a u h1 h2 h3 => ?_, fun a h => ?_⟩, ⟨fun b u h => ?_, d.s.len, d.s.nd, d.s.out, fun nn c a h1 h2 => (d.s.cel nn c a h1 h2).gen (Same.refl G) (fun _ _ h => h) ?_, d.s.lo⟩, upd_same, d.g, d.n⟩
  · obtain ⟨p1, p2, p3⟩ := d.x.fr a u h1 h2 h3
    refine ⟨?_, p2, p3⟩
    rw [upd_ne (fun z => by subst z; rw [hD] at h3; cases h3)]; exact p1
  · by_cases ha : a = D
    · subst ha; rw [upd_same] at h; cases h
    · rw [upd_ne ha] at h; exact d.x.dom a h
  · rw [upd_ne (fun z => by subst z; have := d.g; rw [h] at this; cases this)]; exact d.s.sub b u h
  · exact upd_ne fun z => d.n (z ▸ List.mem_of_getElem? h2)
theorem DIv.start (s : Sim k fl bs G m S H) (hD : H D = none) (o : HO) : DIv k fl bs G m H D o G m S (upd H D o) :=
  ⟨(s.laid hD).2, (s.laid hD).1, upd_same, s.gnone hD, s.no_m hD⟩
end
theorem drop_at {α : Type} {l : List α} {i : Nat} {d : α} (hw : l[i]? = some d) : l.drop i = d :: l.drop (i + 1) := by
  have hl : i < l.length := (List.getElem?_eq_some_iff.mp hw).1
  rw [List.drop_eq_getElem_cons hl]
  congr 1
  rw [List.getElem?_eq_getElem hl] at hw
  exact Option.some.inj hw
theorem comp2_ok {wi wi1 : TI} {g g1 : TG} {tt tt1 : TT} {te : TE} {own vs1 sl sl1 : List Nat} {fi fi1 : En → Sto → Option (Wk × Sto)} {ft ft1 : EV.D → En → Sto → Option (En × Sto)} {fs fs1 : En → Sto → Option (Bool × Sto)} {fe : En → Sto → Rd}
    (hi : LI k fl bs wi fi) (hg : LG k fl bs sl g ft) (ht : LT k fl bs tt fs) (hi1 : LI k fl bs wi1 fi1) (hg1 : LG k fl bs sl1 g1 ft1) (ht1 : LT k fl bs tt1 fs1) (he : LD k fl bs te fe) (hsl : ∀ i ∈ sl, i ∈ own) (hsl1 : ∀ i ∈ sl1, i ∈ vs1) :
    LE k fl bs (tLc2 wi g tt wi1 g1 tt1 te own vs1) (fun ρ S => (fi ρ S).bind fun w => (compGoA ft fs (fun acc ρ S => (fi1 ρ S).bind fun w2 => compGo ft1 fs1 fe w2.1.2 w2.2 (wipeE ρ vs1) w2.1.1 acc w2.2) w.1.2 w.2 (wipeE ρ own) w.1.1 [] w.2).map fun r => (.fl r.1, r.2)) := by
  intro G m ρ S σ H z S' Q s re e hQ
  simp only [Option.bind_eq_some_iff, Option.map_eq_some_iff, Prod.mk.injEq] at e
  obtain ⟨⟨w, S0⟩, e1, ⟨ys, Sf⟩, e2, rfl, rfl⟩ := e
  refine hi G m ρ S σ H w S0 _ s re e1 fun G0 m0 H0 J x0 s0 wk => ?_
  intro D hD
  have rew : RE k G0 m0 (wipeE ρ own) (L2.wipe σ own) := (re.ext x0).wipe own
  let Inv : Nat → Nat → Hp → Prop := fun i n Hc => n + i = w.1.length ∧ ∃ (G1 : Hp) (m1 : List Addr) (S1 : Sto) (acc : List EV.D) (vs : List V),
    DIv k fl bs G0 m0 H0 D (.lst vs) G1 m1 S1 Hc ∧ RVs k G1 m1 acc vs ∧ compGoA ft fs (fun acc ρ S => (fi1 ρ S).bind fun w2 => compGo ft1 fs1 fe w2.1.2 w2.2 (wipeE ρ vs1) w2.1.1 acc w2.2) w.2 S0 (wipeE ρ own) (w.1.drop i) acc S1 = some (ys, Sf)
  refine ⟨Inv, ⟨w.1.length, by omega, G0, m0, S0, [], [], DIv.start s0 hD _, .nil, by simpa using e2⟩, ?_⟩
  rintro i n Hc ⟨hn, G1, m1, S1, acc, vs, dv, ra, ec⟩
  cases hw : w.1[i]? with
  | none =>
    have hl : w.1.length ≤ i := by simpa using hw
    rw [List.drop_eq_nil_of_le hl] at ec
    simp only [compGoA] at ec
    split at ec
    · rename_i st
      simp only [Option.some.injEq, Prod.mk.injEq] at ec
      obtain ⟨rfl, rfl⟩ := ec
      refine .inl ⟨(wk i G1 m1 S1 Hc dv.x.lat dv.s st).2 hl, ?_⟩
      exact hQ G1 m1 _ Hc (x0.trans dv.x) dv.s ⟨D, vs, rfl, x0.dom D hD, dv.h, dv.g, dv.n, ra⟩
    · cases ec
  | some d =>
    have hl : i < w.1.length := (List.getElem?_eq_some_iff.mp hw).1
    rw [drop_at hw] at ec
    simp only [compGoA] at ec
    split at ec
    · rename_i st
      simp only [Option.bind_eq_some_iff] at ec
      obtain ⟨⟨ρ2, S2⟩, ec1, ⟨b, S3⟩, ec2, ec3⟩ := ec
      obtain ⟨go, yl⟩ := (wk i G1 m1 S1 Hc dv.x.lat dv.s st).1 d hw
      refine .inr ⟨go, fun H' => ∃ m', m' < n ∧ Inv (i + 1) m' H', fun H' h => h, fun x H3 hy => ?_⟩
      obtain ⟨G3, x3, s3, r3⟩ := yl x H3 hy
      refine hg G3 m1 _ S1 _ H3 d x ρ2 S2 _ s3 (rew.ext (dv.x.trans x3)) r3 ec1 fun G4 m4 σ4 H4 x4 s4 re4 w4 => ⟨(w4 own hsl).trans (wipe_wipe own), ?_⟩
      refine ht G4 m4 ρ2 S2 σ4 H4 b S3 _ s4 re4 ec2 fun G5 m5 H5 x5 s5 => ?_
      have x15 := x3.trans (x4.trans x5)
      have dv5 := dv.to x15 s5
      cases b with
      | false =>
        simp only [Bool.false_eq_true, if_false] at ec3 ⊢
        exact ⟨n - 1, by omega, by omega, G5, m5, S3, acc, vs, dv5, ra.ext x15, ec3⟩
      | true =>
        simp only [if_true, Option.bind_eq_some_iff] at ec3 ⊢
        obtain ⟨⟨ys1, S9⟩, ⟨⟨w2, S4⟩, ec4, ec5⟩, ec6⟩ := ec3
        have re5 := re4.ext x5
        refine hi1 G5 m5 ρ2 S3 σ4 H5 w2 S4 _ s5 re5 ec4 fun G6 m6 H6 J1 x6 s6 wk1 => ?_
        have dv6 := dv5.to x6 s6
        have rew1 : RE k G6 m6 (wipeE ρ2 vs1) (L2.wipe σ4 vs1) := (re5.ext x6).wipe vs1
        -- the inner turns
        refine ⟨fun j n1 Hd => n1 + j = w2.1.length ∧ ∃ (G7 : Hp) (m7 : List Addr) (S7 : Sto) (acc : List EV.D) (vs : List V), Lat G6 m6 G7 m7 ∧ DIv k fl bs G0 m0 H0 D (.lst vs) G7 m7 S7 Hd ∧ RVs k G7 m7 acc vs ∧ compGo ft1 fs1 fe w2.2 S4 (wipeE ρ2 vs1) (w2.1.drop j) acc S7 = some (ys1, S9),
          ⟨w2.1.length, by omega, G6, m6, S4, acc, vs, Lat.refl _ _, dv6, (ra.ext x15).ext x6, by simpa using ec5⟩, ?_⟩
        rintro j n1 Hd ⟨hn1, G7, m7, S7, acc7, vs7, x7, dv7, ra7, ed⟩
        cases hw2 : w2.1[j]? with
        | none =>
          have hl2 : w2.1.length ≤ j := by simpa using hw2
          rw [List.drop_eq_nil_of_le hl2] at ed
          simp only [compGo] at ed
          split at ed
          · rename_i st2
            simp only [Option.some.injEq, Prod.mk.injEq] at ed
            obtain ⟨rfl, rfl⟩ := ed
            exact .inl ⟨(wk1 j G7 m7 S7 Hd x7 dv7.s st2).2 hl2, n - 1, by omega, by omega, G7, m7, S7, acc7, vs7, dv7, ra7, ec6⟩
          · cases ed
        | some d2 =>
          have hl2 : j < w2.1.length := (List.getElem?_eq_some_iff.mp hw2).1
          rw [drop_at hw2] at ed
          simp only [compGo] at ed
          split at ed
          · rename_i st2
            simp only [Option.bind_eq_some_iff] at ed
            obtain ⟨⟨ρ8, S8⟩, ed1, ⟨b2, S10⟩, ed2, ed3⟩ := ed
            obtain ⟨go1, yl1⟩ := (wk1 j G7 m7 S7 Hd x7 dv7.s st2).1 d2 hw2
            refine .inr ⟨go1, fun H' => ∃ k', k' < n1 ∧ (k' + (j + 1) = w2.1.length ∧ ∃ (G7 : Hp) (m7 : List Addr) (S7 : Sto) (acc : List EV.D) (vs : List V), Lat G6 m6 G7 m7 ∧ DIv k fl bs G0 m0 H0 D (.lst vs) G7 m7 S7 H' ∧ RVs k G7 m7 acc vs ∧ compGo ft1 fs1 fe w2.2 S4 (wipeE ρ2 vs1) (w2.1.drop (j + 1)) acc S7 = some (ys1, S9)),
              fun H' h => h, fun x8 H8 hy8 => ?_⟩
            obtain ⟨G8, x8', s8, r8⟩ := yl1 x8 H8 hy8
            refine hg1 G8 m7 _ S7 _ H8 d2 x8 ρ8 S8 _ s8 (rew1.lat (x7.trans x8'.lat)) r8 ed1 fun G9 m9 σ9 H9 x9 s9 re9 w9 => ⟨(w9 vs1 hsl1).trans (wipe_wipe vs1), ?_⟩
            refine ht1 G9 m9 ρ8 S8 σ9 H9 b2 S10 _ s9 re9 ed2 fun G10 m10 H10 x10 s10 => ?_
            have x710 := x8'.trans (x9.trans x10)
            have dv10 := dv7.to x710 s10
            cases b2 with
            | false =>
              simp only [Bool.false_eq_true, if_false] at ed3 ⊢
              exact ⟨n1 - 1, by omega, by omega, G10, m10, S10, acc7, vs7, x7.trans x710.lat, dv10, ra7.ext x710, ed3⟩
            | true =>
              simp only [if_true, Option.bind_eq_some_iff] at ed3 ⊢
              obtain ⟨⟨y, S11⟩, ed4, ed5⟩ := ed3
              refine he G10 m10 ρ8 S10 σ9 H10 y S11 _ s10 (re9.ext x10) ed4 fun G11 m11 vy H11 x11 s11 r11 => ?_
              have x711 := x710.trans x11
              have dv11 := dv10.to x11 s11
              split at ed5
              · rename_i hz
                refine ⟨vs7, dv11.h, by rw [← ra7.length]; exact hz, n1 - 1, by omega, by omega, ?_⟩
                have dvp := dv11.put hD (.lst (vs7 ++ [vy]))
                exact ⟨G11, m11, S11, acc7 ++ [y], vs7 ++ [vy], x7.trans x711.lat, dvp, (ra7.ext x711).append (.one r11), ed5⟩
              · cases ed5
          · cases ed
    · cases ec

/-! dict comprehensions -/
theorem dcomp_ok {wi : TI} {g : TG} {tt : TT} {tk tv : TE} {own sl : List Nat} {fi : En → Sto → Option (Wk × Sto)} {ft : EV.D → En → Sto → Option (En × Sto)} {fs : En → Sto → Option (Bool × Sto)} {fk fv : En → Sto → Rd}
    (hi : LI k fl bs wi fi) (hg : LG k fl bs sl g ft) (ht : LT k fl bs tt fs) (hk : LD k fl bs tk fk) (hv : LD k fl bs tv fv) (hsl : ∀ i ∈ sl, i ∈ own) :
    LE k fl bs (tDc wi g tt tk tv own) (fun ρ S => (fi ρ S).bind fun w => (dcGo ft fs fk fv w.1.2 w.2 (wipeE ρ own) w.1.1 [] w.2).map fun r => (.fK r.1, r.2)) := by
  intro G m ρ S σ H z S' Q s re e hQ
  simp only [Option.bind_eq_some_iff, Option.map_eq_some_iff, Prod.mk.injEq] at e
  obtain ⟨⟨w, S0⟩, e1, ⟨ys, Sf⟩, e2, rfl, rfl⟩ := e
  refine hi G m ρ S σ H w S0 _ s re e1 fun G0 m0 H0 J x0 s0 wk => ?_
  intro D hD
  have rew : RE k G0 m0 (wipeE ρ own) (L2.wipe σ own) := (re.ext x0).wipe own
  let Inv : Nat → Nat → Hp → Prop := fun i n Hc => n + i = w.1.length ∧ ∃ (G1 : Hp) (m1 : List Addr) (S1 : Sto) (acc : List (Key × EV.D)) (vs : List (Key × V)),
    DIv k fl bs G0 m0 H0 D (.dK vs) G1 m1 S1 Hc ∧ RKs k G1 m1 acc vs ∧ dcGo ft fs fk fv w.2 S0 (wipeE ρ own) (w.1.drop i) acc S1 = some (ys, Sf)
  refine ⟨Inv, ⟨w.1.length, by omega, G0, m0, S0, [], [], DIv.start s0 hD _, rfl, by simpa using e2⟩, ?_⟩
  rintro i n Hc ⟨hn, G1, m1, S1, acc, vs, dv, ra, ec⟩
  cases hw : w.1[i]? with
  | none =>
    have hl : w.1.length ≤ i := by simpa using hw
    rw [List.drop_eq_nil_of_le hl] at ec
    simp only [dcGo] at ec
    split at ec
    · rename_i st
      simp only [Option.some.injEq, Prod.mk.injEq] at ec
      obtain ⟨rfl, rfl⟩ := ec
      refine .inl ⟨(wk i G1 m1 S1 Hc dv.x.lat dv.s st).2 hl, ?_⟩
      exact hQ G1 m1 _ Hc (x0.trans dv.x) dv.s ⟨D, vs, rfl, x0.dom D hD, dv.h, dv.g, dv.n, ra⟩
    · cases ec
  | some d =>
    have hl : i < w.1.length := (List.getElem?_eq_some_iff.mp hw).1
    rw [drop_at hw] at ec
    simp only [dcGo] at ec
    split at ec
    · rename_i st
      simp only [Option.bind_eq_some_iff] at ec
      obtain ⟨⟨ρ2, S2⟩, ec1, ⟨b, S3⟩, ec2, ec3⟩ := ec
      obtain ⟨go, yl⟩ := (wk i G1 m1 S1 Hc dv.x.lat dv.s st).1 d hw
      refine .inr ⟨go, fun H' => ∃ m', m' < n ∧ Inv (i + 1) m' H', fun H' h => h, fun x H3 hy => ?_⟩
      obtain ⟨G3, x3, s3, r3⟩ := yl x H3 hy
      refine hg G3 m1 _ S1 _ H3 d x ρ2 S2 _ s3 (rew.ext (dv.x.trans x3)) r3 ec1 fun G4 m4 σ4 H4 x4 s4 re4 w4 => ⟨(w4 own hsl).trans (wipe_wipe own), ?_⟩
      refine ht G4 m4 ρ2 S2 σ4 H4 b S3 _ s4 re4 ec2 fun G5 m5 H5 x5 s5 => ?_
      have x15 := x3.trans (x4.trans x5)
      have dv5 := dv.to x15 s5
      cases b with
      | false =>
        simp only [Bool.false_eq_true, if_false] at ec3 ⊢
        exact ⟨n - 1, by omega, by omega, G5, m5, S3, acc, vs, dv5, ra.gen x15.sg fun _ _ => x15.at, ec3⟩
      | true =>
        simp only [if_true, Option.bind_eq_some_iff] at ec3 ⊢
        obtain ⟨⟨y, S4⟩, ec4, ⟨z, S5⟩, ec5, c, ec6, ec7⟩ := ec3
        refine hk G5 m5 ρ2 S3 σ4 H5 y S4 _ s5 (re4.ext x5) ec4 fun G6 m6 vy H6 x6 s6 r6 => ?_
        refine hv G6 m6 ρ2 S4 σ4 H6 z S5 _ s6 (re4.ext (x5.trans x6)) ec5 fun G7 m7 vz H7 x7 s7 r7 => ?_
        have x17 := x15.trans (x6.trans x7)
        have dv7 := dv.to x17 s7
        split at ec7
        · rename_i hz
          refine ⟨vs, c, key_ok r6 ec6, dv7.h, by rw [← RKs.length ra]; exact hz, n - 1, by omega, by omega, ?_⟩
          exact ⟨G7, m7, S5, putG acc c z, putK vs c vz, dv7.put hD _, RKs.put c (ra.gen x17.sg fun _ _ => x17.at) r7, ec7⟩
        · cases ec7
    · cases ec
/-! as expressions -/
theorem cI_ex {tg e : Expr} {f : En → Sto → Option (Wk × Sto)} (h : SI k fl bs X tg e f) : True := trivial
def cI (k : Kx) (fl : List Str) (bs : List Nat) (f : En → Sto → Option (Wk × Sto)) : TI := fun σ H R => ∃ G m ρ S w S', Sim k fl bs G m S H ∧ RE k G m ρ σ ∧ f ρ S = some (w, S') ∧ ∀ (G' : Hp) (m' : List Addr) (H' : Hp) (J : It), Ext G m H G' m' H' → Sim k fl bs G' m' S' H' → Wks k fl bs J w G' m' S' H' → R J H'
theorem cI_l (f : En → Sto → Option (Wk × Sto)) : LI k fl bs (cI k fl bs f) f := fun G m ρ S σ H w S' R s re e hR => ⟨G, m, ρ, S, w, S', s, re, e, hR⟩
theorem cI_p {tg e : Expr} {f : En → Sto → Option (Wk × Sto)} (h : SI k fl bs X tg e f) : PI X tg e (cI k fl bs f) := by
  obtain ⟨t, p, l⟩ := h
  exact ⟨fun pins s σ H R I ⟨G, m, ρ, S, w, S', si, re, e, hR⟩ => p.run pins s σ H R I (l G m ρ S σ H w S' R si re e hR)⟩
theorem se_comp2 {elt tg iter tg1 iter1 : Expr} {ifs ifs1 : List Expr} {scope : Scope} {own : List (Str × Nat)} {pos : Pos} {sl sl1 : List Nat} {fi fi1 : En → Sto → Option (Wk × Sto)} {ft ft1 : EV.D → En → Sto → Option (En × Sto)} {fs fs1 : En → Sto → Option (Bool × Sto)} {fe : En → Sto → Rd}
    (hc : X.calm = true) (hN : X.N.Nodup) (hi : SI k fl bs X tg iter fi) (ok : BlkOk X.N X.env.scope scope own) (hsl : ∀ i ∈ sl, i ∈ own.map (·.2)) (hsl1 : ∀ i ∈ sl1, i ∈ own.map (·.2))
    (hg : ∀ Y, Blk X Y scope → SG k fl bs Y sl tg ft) (ht : ∀ Y, Blk X Y scope → STs k fl bs Y ifs fs) (hi1 : ∀ Y, Blk X Y scope → SI k fl bs Y tg1 iter1 fi1) (hg1 : ∀ Y, Blk X Y scope → SG k fl bs Y sl1 tg1 ft1) (ht1 : ∀ Y, Blk X Y scope → STs k fl bs Y ifs1 fs1)
    (he : ∀ Y, Blk X Y scope → SD k fl bs Y elt fe) (hs : ∀ x, foldedSetIterable iter X.env x = pure x) (hs1 : ∀ env x, foldedSetIterable iter1 env x = pure x) :
    (∃ t, LE k fl bs t (fun ρ S => (fi ρ S).bind fun w => (compGoA ft fs (fun acc ρ S => (fi1 ρ S).bind fun w2 => compGo ft1 fs1 fe w2.1.2 w2.2 (wipeE ρ sl1) w2.1.1 acc w2.2) w.1.2 w.2 (wipeE ρ (own.map (·.2))) w.1.1 [] w.2).map fun r => (.fl r.1, r.2)) ∧
      PE X (.ListComp elt [⟨tg, iter, ifs, 0⟩, ⟨tg1, iter1, ifs1, 0⟩] scope pos) t ∧
      ∀ (i : Nat) (y : Str) (py spos : Pos), X.N[i]? = some y → X.env.scope.names.lookup y = some .local → swapsWith (.ListComp elt [⟨tg, iter, ifs, 0⟩, ⟨tg1, iter1, ifs1, 0⟩] scope pos) (some (.Name y py)) spos.line X.env = pure true →
        PS X (.Assign [.Name y py] (.ListComp elt [⟨tg, iter, ifs, 0⟩, ⟨tg1, iter1, ifs1, 0⟩] scope pos) spos) (tAsg t (gName i))) := by
  obtain ⟨wi, pi, li⟩ := hi
  refine ⟨_, comp2_ok (sl := sl) (sl1 := sl1) li (cG_l sl ft) (cT_l fs) (cI_l fi1) (cG_l sl1 ft1) (cT_l fs1) (cD_l fe) hsl (fun _ h => h), ?_, fun i y py spos hy hyl hsw => ?_⟩
  · exact pe_lc2 hc hN pi ok hsl1 (fun s H C cl fp => cG_p (hg _ ⟨s, H, C, cl, fp, rfl⟩)) (fun s H C cl fp => cTs_p (ht _ ⟨s, H, C, cl, fp, rfl⟩)) (fun s H C cl fp => cI_p (hi1 _ ⟨s, H, C, cl, fp, rfl⟩)) (fun s H C cl fp => cG_p (hg1 _ ⟨s, H, C, cl, fp, rfl⟩)) (fun s H C cl fp => cTs_p (ht1 _ ⟨s, H, C, cl, fp, rfl⟩)) (fun s H C cl fp => cD_p (he _ ⟨s, H, C, cl, fp, rfl⟩)) hs hs1
  · exact ps_setLc2 hc hN hy hyl hsw pi ok hsl1 (fun s H C cl fp => cG_p (hg _ ⟨s, H, C, cl, fp, rfl⟩)) (fun s H C cl fp => cTs_p (ht _ ⟨s, H, C, cl, fp, rfl⟩)) (fun s H C cl fp => cI_p (hi1 _ ⟨s, H, C, cl, fp, rfl⟩)) (fun s H C cl fp => cG_p (hg1 _ ⟨s, H, C, cl, fp, rfl⟩)) (fun s H C cl fp => cTs_p (ht1 _ ⟨s, H, C, cl, fp, rfl⟩)) (fun s H C cl fp => cD_p (he _ ⟨s, H, C, cl, fp, rfl⟩)) hs hs1
theorem se_dcomp {kx vx tg iter : Expr} {ifs : List Expr} {scope : Scope} {own : List (Str × Nat)} {pos : Pos} {sl : List Nat} {fi : En → Sto → Option (Wk × Sto)} {ft : EV.D → En → Sto → Option (En × Sto)} {fs : En → Sto → Option (Bool × Sto)} {fk fv : En → Sto → Rd}
    (hc : X.calm = true) (hN : X.N.Nodup) (hi : SI k fl bs X tg iter fi) (ok : BlkOk X.N X.env.scope scope own) (hsl : ∀ i ∈ sl, i ∈ own.map (·.2))
    (hg : ∀ Y, Blk X Y scope → SG k fl bs Y sl tg ft) (ht : ∀ Y, Blk X Y scope → STs k fl bs Y ifs fs) (hk : ∀ Y, Blk X Y scope → SD k fl bs Y kx fk) (hv : ∀ Y, Blk X Y scope → SD k fl bs Y vx fv) (hs : ∀ x, foldedSetIterable iter X.env x = pure x) :
    SE k fl bs X (.DictComp kx vx [⟨tg, iter, ifs, 0⟩] scope pos) (fun ρ S => (fi ρ S).bind fun w => (dcGo ft fs fk fv w.1.2 w.2 (wipeE ρ (own.map (·.2))) w.1.1 [] w.2).map fun r => (.fK r.1, r.2)) := by
  obtain ⟨wi, pi, li⟩ := hi
  exact ⟨_, pe_dc hc hN pi ok (fun s H C cl fp => cG_p (hg _ ⟨s, H, C, cl, fp, rfl⟩)) (fun s H C cl fp => cTs_p (ht _ ⟨s, H, C, cl, fp, rfl⟩)) (fun s H C cl fp => cD_p (hk _ ⟨s, H, C, cl, fp, rfl⟩)) (fun s H C cl fp => cD_p (hv _ ⟨s, H, C, cl, fp, rfl⟩)) hs,
    dcomp_ok li (cG_l sl ft) (cT_l fs) (cD_l fk) (cD_l fv) hsl⟩
end
end EV
end
section
set_option maxRecDepth 100000
set_option autoImplicit false
/-! EV: list(zip(..)): a source of new pairs is gathered into a list. -/
namespace EV
open PySem PySem.Calls PySem.Spec PyProof.Rows PyProof.V PySem.W L2 RZ

/-! tuples zipped, the last pair held by somebody -/
section
variable {prog : Program} {w : World} {A : Around} {E : Value → Shared → Prop} {s : Shared}
theorem zipT_next_item_held {z TI TO T i1 i2 l1 l2 : Addr} {f : Bool} {oT : Obj} {k1 k2 : Nat} {xs ys : Array Value} {x y : Value} {Q : Value → Shared → Prop} (D : ZipApart z TI TO i1 i2 l1 l2)
    (hz : IsZipHeld s.heap z TI TO T f) (hT : s.heap.get? T = some oT) (hTI : IsPair s.heap TI (.ref i1) (.ref i2))
    (h1 : s.heap.IsTupleIter i1 l1 k1) (h2 : s.heap.IsTupleIter i2 l2 k2) (hl1 : s.heap.IsTuple l1 xs) (hl2 : s.heap.IsTuple l2 ys) (hx : xs[k1]? = some x) (hy : ys[k2]? = some y)
    (hQ : ∀ h', IsZipHeld h' z TI TO T true → h'.IsTupleIter i1 l1 (k1 + 1) → h'.IsTupleIter i2 l2 (k2 + 1) → IsPair h' s.heap.objs.size x y → h'.objs.size = s.heap.objs.size + 1 →
      (∀ c o, c ≠ z → c ≠ i1 → c ≠ i2 → s.heap.get? c = some o → h'.get? c = some o) → Q (.ref s.heap.objs.size) { s with heap := h' }) :
    wpAny (model prog w) A (Builtin.«zip.__next__» ⟨[.ref z], []⟩) (fun fin s' => ∃ v, fin = .done (.ret v) ∧ Q v s') E s := by
  show wpAny _ _ (field (.ref z) 2 >>= _) _ _ _
  refine wpAny_bind (wpAny_field hz rfl (x := .bool false) rfl ?_)
  show wpAny _ _ (field (.ref z) 3 >>= _) _ _ _
  refine wpAny_bind (wpAny_field hz rfl (x := .ref TI) rfl ?_)
  refine wpAny_bind (wpAny_seqItems hTI rfl ?_)
  show wpAny _ _ (Builtin.SmallTypes.ownedTupleIsFree (.ref z) >>= _) _ _ _
  refine wpAny_bind (wpAny_tupleHeld_zip hz hT fun h₁ hz₁ hs₁ => ?_)
  simp only [Bool.false_eq_true, if_false]
  refine wpAny_bind ?_
  rw [← Array.forIn_toList]
  simp only [List.forIn_cons, List.forIn_nil]
  refine wpAny_bind (wpAny_bind (wpAny_holding ?_))
  show wpAny _ _ (Builtin.SmallTypes.nextOf (.ref i1) >>= _) _ _ _
  refine wpAny_bind (nextOf_tuple_item (s := { s with heap := h₁ }) (h1.at fun o e => hs₁.extBut _ _ D.i1z e) (hl1.at fun o e => hs₁.extBut _ _ D.l1z e) hx fun h₂ h1₂ hs₂ => wpAny_pure ?_)
  refine wpAny_pure ?_
  refine wpAny_bind (wpAny_bind (wpAny_holding ?_))
  show wpAny _ _ (Builtin.SmallTypes.nextOf (.ref i2) >>= _) _ _ _
  refine wpAny_bind (nextOf_tuple_item (s := { s with heap := h₂ }) (h2.at fun o e => hs₂.extBut _ _ D.i12.symm (hs₁.extBut _ _ D.i2z e)) (hl2.at fun o e => hs₂.extBut _ _ D.l2i1 (hs₁.extBut _ _ D.l2z e)) hy fun h₃ h2₃ hs₃ => wpAny_pure ?_)
  refine wpAny_pure (wpAny_pure ?_)
  show wpAny _ _ (newTuple [x, y] >>= _) _ _ _
  refine wpAny_bind (wpAny_newTuple ?_)
  have hsz : h₃.objs.size = s.heap.objs.size := by rw [hs₃.1, hs₂.1, hs₁.1]
  have hz₃ : IsZipHeld h₃ z TI TO T true := hs₃.extBut _ _ D.i2z.symm (hs₂.extBut _ _ D.i1z.symm hz₁)
  have hk : ∀ c o, c ≠ z → c ≠ i1 → c ≠ i2 → s.heap.get? c = some o → h₃.get? c = some o := fun c o c1 c2 c3 e => hs₃.extBut _ _ c3 (hs₂.extBut _ _ c2 (hs₁.extBut _ _ c1 e))
  have h1₃ : h₃.IsTupleIter i1 l1 (k1 + 1) := h1₂.at fun o e => hs₃.extBut _ _ D.i12 e
  refine wpAny_pure ⟨_, rfl, ?_⟩
  show Q (.ref h₃.objs.size) _
  have hp : IsPair (h₃.push { cls := .type "tuple", data := .seq #[x, y] }) h₃.objs.size x y := Heap.get?_push_size _ rfl
  have hz4 : (h₃.push { cls := .type "tuple", data := .seq #[x, y] }).objs.size = h₃.objs.size + 1 := Heap.size_push ..
  rw [hsz] at hp hz4 ⊢
  exact hQ _ (Heap.get?_push_of_some _ hz₃) (h1₃.at fun o e => Heap.get?_push_of_some _ e) (h2₃.at fun o e => Heap.get?_push_of_some _ e) hp hz4 fun c o c1 c2 c3 e => Heap.get?_push_of_some _ (hk c o c1 c2 c3 e)
theorem zipT_next_end_held {z TI TO T i1 i2 l1 l2 : Addr} {f : Bool} {oT : Obj} {k1 k2 : Nat} {xs ys : Array Value} {Q : Fin → Shared → Prop} (hh : A.handled = none) (D : ZipApart z TI TO i1 i2 l1 l2)
    (hz : IsZipHeld s.heap z TI TO T f) (hT : s.heap.get? T = some oT) (hTI : IsPair s.heap TI (.ref i1) (.ref i2))
    (h1 : s.heap.IsTupleIter i1 l1 k1) (h2 : s.heap.IsTupleIter i2 l2 k2) (hl1 : s.heap.IsTuple l1 xs) (hl2 : s.heap.IsTuple l2 ys) (hend : xs[k1]? = none ∨ ys[k2]? = none)
    (hE : ∀ h' e, (∀ c o, c ≠ z → c ≠ i1 → c ≠ i2 → s.heap.get? c = some o → h'.get? c = some o) → (∃ o, h'.get? e = some o ∧ o.cls = .type "StopIteration") → E (.ref e) { s with heap := h' }) :
    wpAny (model prog w) A (Builtin.«zip.__next__» ⟨[.ref z], []⟩) Q E s := by
  show wpAny _ _ (field (.ref z) 2 >>= _) _ _ _
  refine wpAny_bind (wpAny_field hz rfl (x := .bool false) rfl ?_)
  show wpAny _ _ (field (.ref z) 3 >>= _) _ _ _
  refine wpAny_bind (wpAny_field hz rfl (x := .ref TI) rfl ?_)
  refine wpAny_bind (wpAny_seqItems hTI rfl ?_)
  show wpAny _ _ (Builtin.SmallTypes.ownedTupleIsFree (.ref z) >>= _) _ _ _
  refine wpAny_bind (wpAny_tupleHeld_zip hz hT fun h₁ hz₁ hs₁ => ?_)
  simp only [Bool.false_eq_true, if_false]
  refine wpAny_bind ?_
  rw [← Array.forIn_toList]
  simp only [List.forIn_cons, List.forIn_nil]
  refine wpAny_bind (wpAny_bind (wpAny_holding ?_))
  show wpAny _ _ (Builtin.SmallTypes.nextOf (.ref i1) >>= _) _ _ _
  cases hx : xs[k1]? with
  | none =>
    refine wpAny_bind (nextOf_tuple_end (s := { s with heap := h₁ }) hh (h1.at fun o e => hs₁.extBut _ _ D.i1z e) (hl1.at fun o e => hs₁.extBut _ _ D.l1z e) hx fun h₂ e hs₂ he => ?_)
    exact hE h₂ e (fun c o c1 c2 _ x => hs₂ _ _ c2 (hs₁.extBut _ _ c1 x)) he
  | some x =>
    have hy : ys[k2]? = none := by rcases hend with h | h; rw [hx] at h; cases h; exact h
    refine wpAny_bind (nextOf_tuple_item (s := { s with heap := h₁ }) (h1.at fun o e => hs₁.extBut _ _ D.i1z e) (hl1.at fun o e => hs₁.extBut _ _ D.l1z e) hx fun h₂ h1₂ hs₂ => wpAny_pure ?_)
    refine wpAny_pure ?_
    refine wpAny_bind (wpAny_bind (wpAny_holding ?_))
    show wpAny _ _ (Builtin.SmallTypes.nextOf (.ref i2) >>= _) _ _ _
    refine wpAny_bind (nextOf_tuple_end (s := { s with heap := h₂ }) hh (h2.at fun o e => hs₂.extBut _ _ D.i12.symm (hs₁.extBut _ _ D.i2z e)) (hl2.at fun o e => hs₂.extBut _ _ D.l2i1 (hs₁.extBut _ _ D.l2z e)) hy fun h₃ e hs₃ he => ?_)
    exact hE h₃ e (fun c o c1 c2 c3 x => hs₃ _ _ c3 (hs₂.extBut _ _ c2 (hs₁.extBut _ _ c1 x))) he
theorem pyNext_zipT_item_held {z TI TO T i1 i2 l1 l2 : Addr} {f : Bool} {oT : Obj} {k1 k2 : Nat} {xs ys : Array Value} {x y : Value} {Q : Option Value → Shared → Prop} (D : ZipApart z TI TO i1 i2 l1 l2)
    (hz : IsZipHeld s.heap z TI TO T f) (hT : s.heap.get? T = some oT) (hTI : IsPair s.heap TI (.ref i1) (.ref i2))
    (h1 : s.heap.IsTupleIter i1 l1 k1) (h2 : s.heap.IsTupleIter i2 l2 k2) (hl1 : s.heap.IsTuple l1 xs) (hl2 : s.heap.IsTuple l2 ys) (hx : xs[k1]? = some x) (hy : ys[k2]? = some y)
    (hQ : ∀ h', IsZipHeld h' z TI TO T true → h'.IsTupleIter i1 l1 (k1 + 1) → h'.IsTupleIter i2 l2 (k2 + 1) → IsPair h' s.heap.objs.size x y → h'.objs.size = s.heap.objs.size + 1 →
      (∀ c o, c ≠ z → c ≠ i1 → c ≠ i2 → s.heap.get? c = some o → h'.get? c = some o) → Q (some (.ref s.heap.objs.size)) { s with heap := h' }) :
    wpAny (model prog w) A (pyNext (.ref z)) Q E s := by
  have hTy : s.TypeIs (.ref z) "zip" := ⟨_, hz, rfl⟩
  unfold pyNext
  exact wpAny_bind (wpAny_attempt (wpAny_callSpecial?_slot (name := Str.ofString "__next__") hTy F.slot_zip_next
    (wpAny_call_entry F.slot_zip_next hTy F.entry_zip_next
      (zipT_next_item_held D hz hT hTI h1 h2 hl1 hl2 hx hy fun h' a1 a3 a4 a5 a6 a7 => wpAny_pure (hQ h' a1 a3 a4 a5 a6 a7)) (F.args_zip_next_1 _))))
theorem pyNext_zipT_end_held {z TI TO T i1 i2 l1 l2 : Addr} {f : Bool} {oT : Obj} {k1 k2 : Nat} {xs ys : Array Value} {Q : Option Value → Shared → Prop} (hh : A.handled = none) (D : ZipApart z TI TO i1 i2 l1 l2)
    (hz : IsZipHeld s.heap z TI TO T f) (hT : s.heap.get? T = some oT) (hTI : IsPair s.heap TI (.ref i1) (.ref i2))
    (h1 : s.heap.IsTupleIter i1 l1 k1) (h2 : s.heap.IsTupleIter i2 l2 k2) (hl1 : s.heap.IsTuple l1 xs) (hl2 : s.heap.IsTuple l2 ys) (hend : xs[k1]? = none ∨ ys[k2]? = none)
    (hQ : ∀ h', (∀ c o, c ≠ z → c ≠ i1 → c ≠ i2 → s.heap.get? c = some o → h'.get? c = some o) → Q none { s with heap := h' }) : wpAny (model prog w) A (pyNext (.ref z)) Q E s := by
  have hTy : s.TypeIs (.ref z) "zip" := ⟨_, hz, rfl⟩
  unfold pyNext
  refine wpAny_bind (wpAny_attempt (wpAny_callSpecial?_slot (name := Str.ofString "__next__") hTy F.slot_zip_next
    (wpAny_call_entry F.slot_zip_next hTy F.entry_zip_next (zipT_next_end_held hh D hz hT hTI h1 h2 hl1 hl2 hend fun h' e hk he => ?_) (F.args_zip_next_1 _))))
  obtain ⟨o, ho, hc⟩ := he
  refine wpAny_bind (wpAny_isInstance (T := "StopIteration") (b := true) ⟨o, ho, hc⟩ isSubtype_stop ?_)
  exact wpAny_pure (hQ _ hk)
end

/-! a source of new pairs: S the list that takes them, fp the source's own objects, B ahead of the pairs -/
structure PSrc (prog : Program) (w : World) (it S B : Addr) (fp : List Addr) (n : Nat) (pr : Nat → Value × Value) (T : Nat → Heap → Prop) : Prop where
  mem : it ∈ fp
  nS : S ∉ fp
  low : ∀ b ∈ fp, b < B
  obj : ∀ i h, T i h → ∃ o, h.get? it = some o ∧ o.cls = .type "zip"
  keep : ∀ i h h', T i h → (∀ b o, b ≠ S → h.get? b = some o → h'.get? b = some o) → T i h'
  item : ∀ (i : Nat) (s : Shared) (A : Around) (E : Value → Shared → Prop) (Q : Option Value → Shared → Prop), T i s.heap → i < n → S < s.heap.objs.size → (∀ h', T (i + 1) h' → h'.get? s.heap.objs.size = some { cls := .type "tuple", data := .seq #[(pr i).1, (pr i).2] } →
    h'.objs.size = s.heap.objs.size + 1 → (∀ b o, b ∉ fp → s.heap.get? b = some o → h'.get? b = some o) → Q (some (.ref s.heap.objs.size)) { s with heap := h' }) → wpAny (model prog w) A (pyNext (.ref it)) Q E s
  self : ∀ (i : Nat) (s : Shared) (A : Around) (E : Value → Shared → Prop) (Q : Value → Shared → Prop), T i s.heap → Q (.ref it) s → wpAny (model prog w) A (pyIter (.ref it)) Q E s
  done : ∀ (i : Nat) (s : Shared) (A : Around) (E : Value → Shared → Prop) (Q : Option Value → Shared → Prop), A.handled = none → T i s.heap → n ≤ i → (∀ h', (∀ b o, b ∉ fp → s.heap.get? b = some o → h'.get? b = some o) → Q none { s with heap := h' }) →
    wpAny (model prog w) A (pyNext (.ref it)) Q E s
/-- the pairs' addresses -/
def PAt (n : Nat) (pr : Nat → Value × Value) (B : Addr) (h : Heap) (as : List Addr) : Prop :=
  (∀ a ∈ as, B ≤ a) ∧ (∀ (j : Nat) (a : Addr), as[j]? = some a → h.get? a = some { cls := .type "tuple", data := .seq #[(pr j).1, (pr j).2] }) ∧ as.Nodup
section
variable {prog : Program} {w : World} {A : Around} {s : Shared} {R : Result → Shared → Prop} {it S B : Addr} {fp : List Addr} {n : Nat} {pr : Nat → Value × Value} {T : Nat → Heap → Prop}
theorem ps_loop (hh : A.handled = none) (P : PSrc prog w it S B fp n pr T) (hSB : S < B) (hn : n ≤ sizeLine) (res : Value) {h₁ : Heap}
    (hR : ∀ h' tk acc c as, (∀ b o, b ≠ S → b ∉ fp → h₁.get? b = some o → h'.get? b = some o) → h'.get? S = some { cls := .type "list", dict := none, data := .seq acc c, slots := #[] } → as.length = n → PAt n pr B h' as →
      acc.toList = as.map Value.ref → R (.ok (.ret res)) { s with heap := h', toks := tk }) :
    ∀ (k i : Nat) (h : Heap) (tk c : Nat) (acc : Array Value) (as : List Addr), n - i = k → i ≤ n → T i h → B ≤ h.objs.size → (∀ b o, b ≠ S → b ∉ fp → h₁.get? b = some o → h.get? b = some o) →
      h.get? S = some { cls := .type "list", dict := none, data := .seq acc c, slots := #[] } → acc.toList = as.map Value.ref → as.length = i → PAt n pr B h as →
      codeAny (model prog w) A (.builtin "list.extend.loop" ⟨[.ref S, .ref it, res], []⟩) R { s with heap := h, toks := tk } := by
  intro k
  induction k with
  | zero =>
    intro i h tk c acc as hk hi hst hB hkeep hS hacc hal hG
    refine codeAny_builtin PySem.F.entry_extend_loop ?_
    rw [Around.under_plainId PySem.F.plain_extend_loop _]
    show wpAny _ A.in1 (pyNext (.ref it) >>= _) _ _ _
    refine wpAny_bind (P.done i { s with heap := h, toks := tk } A.in1 _ _ hh hst (by omega) fun h' he => ?_)
    refine wpAny_pure (hR h' tk acc c as (fun b o h1 h2 e => he b o h2 (hkeep b o h1 h2 e)) (he S _ P.nS hS) (by omega) ⟨hG.1, fun j a hj => he a _ (fun z => ?_) (hG.2.1 j a hj), hG.2.2⟩ hacc)
    exact absurd (P.low a z) (Nat.not_lt.mpr (hG.1 a (List.mem_of_getElem? hj)))
  | succ k ih =>
    intro i h tk c acc as hk hi hst hB hkeep hS hacc hal hG
    have hlt : i < n := by omega
    have hsz : acc.size = i := by rw [← Array.length_toList, hacc, List.length_map, hal]
    have hSl : S < h.objs.size := Heap.lt_size hS
    refine codeAny_builtin PySem.F.entry_extend_loop ?_
    rw [Around.under_plainId PySem.F.plain_extend_loop _]
    show wpAny _ A.in1 (pyNext (.ref it) >>= _) _ _ _
    refine wpAny_bind (P.item i { s with heap := h, toks := tk } A.in1 _ _ hst hlt hSl fun h' hst' ht hz hkp => ?_)
    dsimp only at ht hz hkp ⊢
    have hS' := hkp S _ P.nS hS
    have up : ∀ b o, b ≠ S → h'.get? b = some o → (h'.update S (Obj.mapSeq (·.push (Value.ref h.objs.size)))).get? b = some o := fun b o hb e => (Heap.get?_update_other _ _ (Ne.symm hb)).trans e
    show wpAny _ A.in1 (updateSeq S (·.push (Value.ref h.objs.size)) >>= _) _ _ _
    refine wpAny_bind ?_
    refine wpAny_updateSeq hS' rfl (wpAny_pure ⟨plainId_quiet PySem.F.plain_extend_loop _, ih (i + 1) _ tk _ (acc.push (Value.ref h.objs.size)) (as ++ [h.objs.size]) (by omega) hlt (P.keep _ _ _ hst' up) ?_
      (fun b o h1 h2 e => up b o h1 (hkp b o h2 (hkeep b o h1 h2 e))) (Heap.get?_update_self _ hS' rfl) (by rw [Array.toList_push, hacc, List.map_append]; rfl) (by rw [List.length_append, hal]; rfl) ⟨?_, ?_, ?_⟩⟩) (by rw [hsz]; omega) (by rw [Array.size_push, hsz]; omega)
    · rw [Heap.size_update, hz]; exact Nat.le_succ_of_le hB
    · intro a ha
      rcases List.mem_append.mp ha with ha | ha
      · exact hG.1 a ha
      · rw [List.mem_singleton.mp ha]; exact hB
    · intro j b hj
      rcases Nat.lt_trichotomy j as.length with h1 | h1 | h1
      · rw [List.getElem?_append_left h1] at hj
        have hb := hG.1 b (List.mem_of_getElem? hj)
        exact up b _ (Nat.ne_of_gt (Nat.lt_of_lt_of_le hSB hb)) (hkp b _ (fun z => absurd (P.low b z) (Nat.not_lt.mpr hb)) (hG.2.1 j b hj))
      · subst h1
        have hb : h.objs.size = b := by simpa using hj
        subst hb
        subst hal
        exact up _ _ (Nat.ne_of_gt hSl) ht
      · have hnone : (as ++ [h.objs.size])[j]? = none := List.getElem?_eq_none (by rw [List.length_append, List.length_singleton]; omega)
        rw [hnone] at hj; cases hj
    · rw [List.nodup_append]
      refine ⟨hG.2.2, by simp, fun a ha b hb => ?_⟩
      rw [List.mem_singleton] at hb
      subst hb
      obtain ⟨j, hj⟩ := List.mem_iff_getElem?.mp ha
      exact Nat.ne_of_lt (Heap.lt_size (hG.2.1 j a hj))
theorem nolen_zip : typeLookup (.type "zip") "__len__" = pure none := by rw [typeLookup_type, builtinLookup_eq_fast]; kernel_rfl
theorem nohint_zip : typeLookup (.type "zip") "__length_hint__" = pure none := by rw [typeLookup_type, builtinLookup_eq_fast]; kernel_rfl
theorem hint_zip {E : Value → Shared → Prop} {r : Addr} (hT : s.TypeIs (.ref r) "zip") {Q : Bool → Shared → Prop} (h : Q true s) : wpAny (model prog w) A (Builtin.List.listLengthHint (.ref r)) Q E s := by
  unfold Builtin.List.listLengthHint
  refine wpAny_bind (wpAny_specialOf hT nolen_zip ?_)
  show wpAny _ A (specialOf (Value.ref r) (Str.ofString "__length_hint__") >>= _) _ _ _
  refine wpAny_bind (wpAny_specialOf hT nohint_zip ?_)
  exact wpAny_pure h
theorem ps_extend (hh : A.handled = none) (P : PSrc prog w it S B fp n pr T) (hSB : S < B) (hB : B ≤ s.heap.objs.size) (hT : T 0 s.heap) (hn : n ≤ sizeLine) (res : Value) (c₀ : Nat) (hS : s.heap.get? S = some { cls := .type "list", data := .seq #[] c₀ })
    (hR : ∀ h' tk acc c as, (∀ b o, b ≠ S → b ∉ fp → s.heap.get? b = some o → h'.get? b = some o) → h'.get? S = some { cls := .type "list", dict := none, data := .seq acc c, slots := #[] } → as.length = n → PAt n pr B h' as →
      acc.toList = as.map Value.ref → R (.ok (.ret res)) { s with heap := h', toks := tk }) :
    wpAny (model prog w) A.in1 (Builtin.List.listExtendWith (.ref S) (.ref it) res)
      (fun fin s' => match fin with | .done f => R (.ok f) s' | .again c' => c'.quiet = true ∧ codeAny (model prog w) A c' R s') (fun e s' => R (.error e) s') s := by
  have hne : S ≠ it := fun z => P.nS (z ▸ P.mem)
  have hTy : s.TypeIs (.ref it) "zip" := by obtain ⟨o, ho, hc⟩ := P.obj 0 _ hT; exact ⟨o, ho, hc⟩
  have key : ∀ (h : Heap) (c₁ tk : Nat), (∀ b o, b ≠ S → s.heap.get? b = some o → h.get? b = some o) → B ≤ h.objs.size → h.get? S = some { cls := .type "list", data := .seq #[] c₁ } → codeAny (model prog w) A (.builtin "list.extend.loop" ⟨[.ref S, .ref it, res], []⟩) R { s with heap := h, toks := tk } := by
    intro h c₁ tk hk hB' hS₁
    exact ps_loop (s := s) (h₁ := s.heap) hh P hSB hn res hR n 0 h tk c₁ #[] [] (Nat.sub_zero _) (Nat.zero_le _) (P.keep 0 _ _ hT hk) hB' (fun b o hb _ e => hk b o hb e) hS₁ rfl rfl ⟨by simp, by simp, List.nodup_nil⟩
  unfold Builtin.List.listExtendWith
  refine wpAny_bind (wpAny_typeOf (T := "zip") hTy ?_)
  have h1 : Builtin.List.listSameRef (.ref S) (.ref it) = false := by simp [Builtin.List.listSameRef, hne]
  have h2 : (Value.type "zip" == Value.type "list") = false := by decide
  have h3 : (Value.type "zip" == Value.type "tuple") = false := by decide
  simp only [h1, h2, h3, Bool.or_false, Bool.false_eq_true, if_false]
  refine wpAny_bind (P.self 0 s _ _ _ hT ?_)
  refine wpAny_bind (wpAny_holding (hint_zip hTy ?_))
  refine wpAny_ite_split (fun _ => ?_) (fun _ => wpAny_pure ⟨plainId_quiet PySem.F.plain_extend_loop _, key _ c₀ _ (fun b o _ e => e) hB hS⟩)
  refine wpAny_bind (wpAny_rule ?_)
  refine wpAny_bind ?_
  show wpAny _ _ (updateSeq S (·.push .none) >>= fun _ => updateSeq S (·.pop)) _ _ _
  refine wpAny_bind (wpAny_updateSeq hS rfl ?_)
  have hS₂ := Heap.get?_update_self (Obj.mapSeq (·.push Value.none)) hS rfl
  refine wpAny_updateSeq (hz := by seq_fits) hS₂ rfl ?_
  have hS₃ := Heap.get?_update_self (Obj.mapSeq (·.pop)) hS₂ rfl
  refine wpAny_pure ⟨plainId_quiet PySem.F.plain_extend_loop _, key _ _ _ (fun b o hb e => ?_) (by rw [Heap.size_update, Heap.size_update]; exact hB) hS₃⟩
  exact (Heap.get?_update_other _ _ (Ne.symm hb)).trans ((Heap.get?_update_other _ _ (Ne.symm hb)).trans e)
theorem ps_init (hh : A.handled = none) (P : PSrc prog w it S B fp n pr T) (hSB : S < B) (hB : B ≤ s.heap.objs.size) (hT : T 0 s.heap) (hn : n ≤ sizeLine) (hS : s.heap.get? S = some { cls := .type "list", data := .seq #[] })
    (hR : ∀ h' tk acc c as, (∀ b o, b ≠ S → b ∉ fp → s.heap.get? b = some o → h'.get? b = some o) → h'.get? S = some { cls := .type "list", dict := none, data := .seq acc c, slots := #[] } → as.length = n → PAt n pr B h' as →
      acc.toList = as.map Value.ref → R (.ok (.ret .none)) { s with heap := h', toks := tk }) :
    wpAny (model prog w) A.in1 (Builtin.«list.__init__» ⟨[.ref S, .ref it], []⟩)
      (fun fin s' => match fin with | .done f => R (.ok f) s' | .again c' => c'.quiet = true ∧ codeAny (model prog w) A c' R s') (fun e s' => R (.error e) s') s := by
  show wpAny _ _ (do let old ← Builtin.List.listItems (.ref S); Builtin.List.listUpdate (.ref S) (fun _ => #[]); letGo old.toList.reverse; Builtin.List.listExtendWith (.ref S) (.ref it) .none) _ _ s
  refine wpAny_bind ?_
  unfold Builtin.List.listItems
  refine wpAny_bind (wpAny_seqItems hS rfl (wpAny_pure ?_))
  show wpAny _ _ (updateSeq S (fun _ => #[]) >>= fun _ => letGo (#[] : Array Value).toList.reverse >>= fun _ => Builtin.List.listExtendWith (.ref S) (.ref it) .none) _ _ s
  refine wpAny_bind (wpAny_updateSeq hS rfl ?_)
  have hS₂ := Heap.get?_update_self (Obj.mapSeq (fun _ => (#[] : Array Value))) hS rfl
  have oth : ∀ b o, b ≠ S → s.heap.get? b = some o → (s.heap.update S (Obj.mapSeq (fun _ => (#[] : Array Value)))).get? b = some o :=
    fun b o hb e => (Heap.get?_update_other _ _ (Ne.symm hb)).trans e
  refine wpAny_bind (wpAny_letGo ?_)
  refine ps_extend (s := { s with heap := s.heap.update S (Obj.mapSeq (fun _ => (#[] : Array Value))) }) hh P hSB (by rw [Heap.size_update]; exact hB) (P.keep _ _ _ hT oth) hn .none _ hS₂ (fun h' tk acc c as hk hS' hl hG hacc => ?_)
  exact hR h' tk acc c as (fun b o hb hf e => hk b o hb hf (oth b o hb e)) hS' hl hG hacc
end
/-- list(source): the list's address is the heap's end ahead -/
theorem ps_call {prog : Program} {w : World} {A : Around} {s : Shared} {it : Addr} {fp : List Addr} {n : Nat} {pr : Nat → Value × Value} {T : Nat → Heap → Prop} {E : Value → Shared → Prop} {Q : Value → Shared → Prop} (hh : A.handled = none)
    (P : PSrc prog w it s.heap.objs.size (s.heap.objs.size + 1) fp n pr T) (hT : T 0 (s.heap.push { cls := .type "list", data := .seq #[] })) (hn : n ≤ sizeLine)
    (hQ : ∀ h' tk acc c as, (∀ b o, b ∉ fp → s.heap.get? b = some o → h'.get? b = some o) → h'.get? s.heap.objs.size = some { cls := .type "list", dict := none, data := .seq acc c, slots := #[] } → as.length = n → PAt n pr (s.heap.objs.size + 1) h' as →
      acc.toList = as.map Value.ref → Q (.ref s.heap.objs.size) { s with heap := h', toks := tk }) :
    wpAny (model prog w) A (call (.type "list") [.ref it]) Q E s := by
  refine callType_codes (Q₁ := fun obj s₁ => obj = .ref s.heap.objs.size ∧ s₁ = { s with heap := s.heap.push { cls := .type "list", data := .seq #[] } }) PySem.F.called_list (PySem.F.typeCall_list_1 _) PySem.F.entry_list_init
    (code_list_new _ ⟨rfl, rfl⟩) fun obj s₁ h₁ => ?_
  obtain ⟨rfl, rfl⟩ := h₁
  have hS : (s.heap.push { cls := .type "list", data := .seq #[] }).get? s.heap.objs.size = some { cls := .type "list", data := .seq #[] } := Heap.get?_push_size _ rfl
  refine ⟨⟨_, hS, rfl⟩, PySem.F.args_list_init_2 _ _, ps_init (A := A.in1) (s := { s with heap := s.heap.push { cls := .type "list", data := .seq #[] } }) hh P (Nat.lt_succ_self _) (by rw [Heap.size_push]; exact Nat.le_refl _) hT hn hS (fun h' tk acc c as hk hS' hl hG hacc => ?_)⟩
  exact ⟨rfl, hQ h' tk acc c as (fun b o hf e => hk b o (Nat.ne_of_lt (Heap.lt_size e)) hf (Heap.get?_push_of_some _ e)) hS' hl hG hacc⟩

/-! zip of two lists, of two tuples, as such sources -/
def ZL (S z TI TO i1 i2 l1 l2 : Addr) (xs ys : Array Value) (i : Nat) (h : Heap) : Prop :=
  IsPair h TI (.ref i1) (.ref i2) ∧ h.IsListIter i1 l1 i ∧ h.IsListIter i2 l2 i ∧ h.IsList l1 xs ∧ h.IsList l2 ys ∧ ((i = 0 ∧ IsZip h z TI TO .none ∧ ∃ a b, IsPair h TO a b) ∨ ∃ T f oT, IsZipHeld h z TI TO T f ∧ h.get? T = some oT ∧ T ≠ S ∧ T ≠ z ∧ T ≠ i1 ∧ T ≠ i2)
def ZT (S z TI TO i1 i2 l1 l2 : Addr) (xs ys : Array Value) (i : Nat) (h : Heap) : Prop :=
  IsPair h TI (.ref i1) (.ref i2) ∧ h.IsTupleIter i1 l1 i ∧ h.IsTupleIter i2 l2 i ∧ h.IsTuple l1 xs ∧ h.IsTuple l2 ys ∧ ((i = 0 ∧ IsZip h z TI TO .none ∧ ∃ a b, IsPair h TO a b) ∨ ∃ T f oT, IsZipHeld h z TI TO T f ∧ h.get? T = some oT ∧ T ≠ S ∧ T ≠ z ∧ T ≠ i1 ∧ T ≠ i2)
def zpr (xs ys : Array Value) (i : Nat) : Value × Value := ((xs[i]?).getD .none, (ys[i]?).getD .none)
theorem zpr_at {xs ys : Array Value} {i : Nat} (h : i < min xs.size ys.size) : xs[i]? = some (zpr xs ys i).1 ∧ ys[i]? = some (zpr xs ys i).2 := by
  unfold zpr
  have h1 : i < xs.size := Nat.lt_of_lt_of_le h (Nat.min_le_left _ _)
  have h2 : i < ys.size := Nat.lt_of_lt_of_le h (Nat.min_le_right _ _)
  simp [h1, h2]
theorem zpr_end {xs ys : Array Value} {i : Nat} (h : min xs.size ys.size ≤ i) : xs[i]? = none ∨ ys[i]? = none := by
  by_cases hx : xs.size ≤ i
  · exact .inl (Array.getElem?_eq_none hx)
  · exact .inr (Array.getElem?_eq_none (by omega))
theorem lt_it {h : Heap} {it l : Addr} {i : Nat} (t : h.IsListIter it l i) : it < h.objs.size := by obtain ⟨o, ho, _⟩ := t; exact Heap.lt_size ho
theorem lt_itT {h : Heap} {it l : Addr} {i : Nat} (t : h.IsTupleIter it l i) : it < h.objs.size := by obtain ⟨o, ho, _⟩ := t; exact Heap.lt_size ho
theorem iter_zip {prog : Program} {w : World} {A : Around} {s : Shared} {E : Value → Shared → Prop} {z : Addr} {Q : Value → Shared → Prop} (hT : s.TypeIs (.ref z) "zip") (h : Q (.ref z) s) : wpAny (model prog w) A (pyIter (.ref z)) Q E s := by
  refine wpAny_pyIter_slot hT F.slot_zip_iter (wpAny_call_entry F.slot_zip_iter hT F.entry_zip_iter ?_ (F.args_zip_iter_1 _))
  show wpAny _ _ (ret (.ref z)) _ _ s
  exact wpAny_pure ⟨_, rfl, "zip", _, hT, F.slot_zip_next.lookup, h⟩
theorem zl_src {prog : Program} {w : World} {S B z TI TO i1 i2 l1 l2 : Addr} {xs ys : Array Value} (D : ZipApart z TI TO i1 i2 l1 l2) (hS : S ≠ TI ∧ S ≠ TO ∧ S ≠ z ∧ S ≠ i1 ∧ S ≠ i2 ∧ S ≠ l1 ∧ S ≠ l2) (hB : z < B ∧ TO < B ∧ i1 < B ∧ i2 < B) :
    PSrc prog w z S B [z, TO, i1, i2] (min xs.size ys.size) (zpr xs ys) (ZL S z TI TO i1 i2 l1 l2 xs ys) := by
  obtain ⟨n1, n2, n3, n4, n5, n6, n7⟩ := hS
  refine ⟨by simp, by simp [n2, n3, n4, n5], fun b hb => ?_, fun i h t => ?_, fun i h h' t hk => ?_, fun i s A E Q t hi hs hQ => ?_, fun i s A E Q t hQ => ?_, fun i s A E Q hh t hi hQ => ?_⟩
  · simp only [List.mem_cons, List.not_mem_nil, or_false] at hb
    rcases hb with e | e | e | e <;> rw [e]
    · exact hB.1
    · exact hB.2.1
    · exact hB.2.2.1
    · exact hB.2.2.2
  · rcases t.2.2.2.2.2 with ⟨_, e, _⟩ | ⟨T, f, oT, e, _⟩
    · exact ⟨_, e, rfl⟩
    · exact ⟨_, e, rfl⟩
  · obtain ⟨t1, t2, t3, t4, t5, t6⟩ := t
    refine ⟨hk _ _ n1.symm t1, t2.at fun o e => hk _ o n4.symm e, t3.at fun o e => hk _ o n5.symm e, t4.at fun o e => hk _ o n6.symm e, t5.at fun o e => hk _ o n7.symm e, ?_⟩
    rcases t6 with ⟨e0, e, a, b, e2⟩ | ⟨T, f, oT, e, e2, e3, e4, e5, e6⟩
    · exact .inl ⟨e0, hk _ _ n3.symm e, a, b, hk _ _ n2.symm e2⟩
    · exact .inr ⟨T, f, oT, hk _ _ n3.symm e, hk _ _ e3 e2, e3, e4, e5, e6⟩
  · obtain ⟨t1, t2, t3, t4, t5, t6⟩ := t
    obtain ⟨hx, hy⟩ := zpr_at hi
    rcases t6 with ⟨e0, e, a, b, e2⟩ | ⟨T, f, oT, e, e2, e3, e4, e5, e6⟩
    · refine wpAny_pyNext_zip_item D e t1 e2 t2 t3 t4 t5 hx hy fun h' a1 a2 a3 a4 a5 a6 a7 => hQ h' ?_ a5 a6 fun b o hb q => ?_
      · exact ⟨a7 _ _ D.TIz D.TITO D.TIi1 D.TIi2 t1, a3, a4, t4.at fun o q => a7 _ o D.l1z D.l1TO D.l1i1 D.l1i2 q, t5.at fun o q => a7 _ o D.l2z D.l2TO D.l2i1 D.l2i2 q, .inr ⟨_, false, _, a1, a5, Nat.ne_of_gt hs, Nat.ne_of_gt (Heap.lt_size e), Nat.ne_of_gt (lt_it t2), Nat.ne_of_gt (lt_it t3)⟩⟩
      · simp only [List.mem_cons, List.not_mem_nil, or_false, not_or] at hb
        exact a7 b o hb.1 hb.2.1 hb.2.2.1 hb.2.2.2 q
    · refine wpAny_pyNext_zip_item_held D e e2 t1 t2 t3 t4 t5 hx hy fun h' a1 a3 a4 a5 a6 a7 => hQ h' ?_ a5 a6 fun b o hb q => ?_
      · refine ⟨a7 _ _ D.TIz D.TIi1 D.TIi2 t1, a3, a4, t4.at fun o q => a7 _ o D.l1z D.l1i1 D.l1i2 q, t5.at fun o q => a7 _ o D.l2z D.l2i1 D.l2i2 q, .inr ⟨T, true, oT, a1, a7 _ _ e4 e5 e6 e2, e3, e4, e5, e6⟩⟩
      · simp only [List.mem_cons, List.not_mem_nil, or_false, not_or] at hb
        exact a7 b o hb.1 hb.2.2.1 hb.2.2.2 q
  · rcases t.2.2.2.2.2 with ⟨_, e, _⟩ | ⟨T, f, oT, e, _⟩
    · exact iter_zip ⟨_, e, rfl⟩ hQ
    · exact iter_zip ⟨_, e, rfl⟩ hQ
  · obtain ⟨t1, t2, t3, t4, t5, t6⟩ := t
    rcases t6 with ⟨e0, e, a, b, e2⟩ | ⟨T, f, oT, e, e2, e3, e4, e5, e6⟩
    · exact wpAny_pyNext_zip_end hh D e t1 e2 t2 t3 t4 t5 (zpr_end hi) fun h' a7 => hQ h' fun b o hb q => by
        simp only [List.mem_cons, List.not_mem_nil, or_false, not_or] at hb
        exact a7 b o hb.1 hb.2.1 hb.2.2.1 hb.2.2.2 q
    · exact wpAny_pyNext_zip_end_held hh D e e2 t1 t2 t3 t4 t5 (zpr_end hi) fun h' a7 => hQ h' fun b o hb q => by
        simp only [List.mem_cons, List.not_mem_nil, or_false, not_or] at hb
        exact a7 b o hb.1 hb.2.2.1 hb.2.2.2 q
theorem zt_src {prog : Program} {w : World} {S B z TI TO i1 i2 l1 l2 : Addr} {xs ys : Array Value} (D : ZipApart z TI TO i1 i2 l1 l2) (hS : S ≠ TI ∧ S ≠ TO ∧ S ≠ z ∧ S ≠ i1 ∧ S ≠ i2 ∧ S ≠ l1 ∧ S ≠ l2) (hB : z < B ∧ TO < B ∧ i1 < B ∧ i2 < B) :
    PSrc prog w z S B [z, TO, i1, i2] (min xs.size ys.size) (zpr xs ys) (ZT S z TI TO i1 i2 l1 l2 xs ys) := by
  obtain ⟨n1, n2, n3, n4, n5, n6, n7⟩ := hS
  refine ⟨by simp, by simp [n2, n3, n4, n5], fun b hb => ?_, fun i h t => ?_, fun i h h' t hk => ?_, fun i s A E Q t hi hs hQ => ?_, fun i s A E Q t hQ => ?_, fun i s A E Q hh t hi hQ => ?_⟩
  · simp only [List.mem_cons, List.not_mem_nil, or_false] at hb
    rcases hb with e | e | e | e <;> rw [e]
    · exact hB.1
    · exact hB.2.1
    · exact hB.2.2.1
    · exact hB.2.2.2
  · rcases t.2.2.2.2.2 with ⟨_, e, _⟩ | ⟨T, f, oT, e, _⟩
    · exact ⟨_, e, rfl⟩
    · exact ⟨_, e, rfl⟩
  · obtain ⟨t1, t2, t3, t4, t5, t6⟩ := t
    refine ⟨hk _ _ n1.symm t1, t2.at fun o e => hk _ o n4.symm e, t3.at fun o e => hk _ o n5.symm e, t4.at fun o e => hk _ o n6.symm e, t5.at fun o e => hk _ o n7.symm e, ?_⟩
    rcases t6 with ⟨e0, e, a, b, e2⟩ | ⟨T, f, oT, e, e2, e3, e4, e5, e6⟩
    · exact .inl ⟨e0, hk _ _ n3.symm e, a, b, hk _ _ n2.symm e2⟩
    · exact .inr ⟨T, f, oT, hk _ _ n3.symm e, hk _ _ e3 e2, e3, e4, e5, e6⟩
  · obtain ⟨t1, t2, t3, t4, t5, t6⟩ := t
    obtain ⟨hx, hy⟩ := zpr_at hi
    rcases t6 with ⟨e0, e, a, b, e2⟩ | ⟨T, f, oT, e, e2, e3, e4, e5, e6⟩
    · refine pyNext_zipT_item D e t1 e2 t2 t3 t4 t5 hx hy fun h' a1 a2 a3 a4 a5 a6 a7 => hQ h' ?_ a5 a6 fun b o hb q => ?_
      · exact ⟨a7 _ _ D.TIz D.TITO D.TIi1 D.TIi2 t1, a3, a4, t4.at fun o q => a7 _ o D.l1z D.l1TO D.l1i1 D.l1i2 q, t5.at fun o q => a7 _ o D.l2z D.l2TO D.l2i1 D.l2i2 q, .inr ⟨_, false, _, a1, a5, Nat.ne_of_gt hs, Nat.ne_of_gt (Heap.lt_size e), Nat.ne_of_gt (lt_itT t2), Nat.ne_of_gt (lt_itT t3)⟩⟩
      · simp only [List.mem_cons, List.not_mem_nil, or_false, not_or] at hb
        exact a7 b o hb.1 hb.2.1 hb.2.2.1 hb.2.2.2 q
    · refine pyNext_zipT_item_held D e e2 t1 t2 t3 t4 t5 hx hy fun h' a1 a3 a4 a5 a6 a7 => hQ h' ?_ a5 a6 fun b o hb q => ?_
      · refine ⟨a7 _ _ D.TIz D.TIi1 D.TIi2 t1, a3, a4, t4.at fun o q => a7 _ o D.l1z D.l1i1 D.l1i2 q, t5.at fun o q => a7 _ o D.l2z D.l2i1 D.l2i2 q, .inr ⟨T, true, oT, a1, a7 _ _ e4 e5 e6 e2, e3, e4, e5, e6⟩⟩
      · simp only [List.mem_cons, List.not_mem_nil, or_false, not_or] at hb
        exact a7 b o hb.1 hb.2.2.1 hb.2.2.2 q
  · rcases t.2.2.2.2.2 with ⟨_, e, _⟩ | ⟨T, f, oT, e, _⟩
    · exact iter_zip ⟨_, e, rfl⟩ hQ
    · exact iter_zip ⟨_, e, rfl⟩ hQ
  · obtain ⟨t1, t2, t3, t4, t5, t6⟩ := t
    rcases t6 with ⟨e0, e, a, b, e2⟩ | ⟨T, f, oT, e, e2, e3, e4, e5, e6⟩
    · exact pyNext_zipT_end hh D e t1 e2 t2 t3 t4 t5 (zpr_end hi) fun h' a7 => hQ h' fun b o hb q => by
        simp only [List.mem_cons, List.not_mem_nil, or_false, not_or] at hb
        exact a7 b o hb.1 hb.2.1 hb.2.2.1 hb.2.2.2 q
    · exact pyNext_zipT_end_held hh D e e2 t1 t2 t3 t4 t5 (zpr_end hi) fun h' a7 => hQ h' fun b o hb q => by
        simp only [List.mem_cons, List.not_mem_nil, or_false, not_or] at hb
        exact a7 b o hb.1 hb.2.2.1 hb.2.2.2 q
end EV
end
section
set_option maxRecDepth 100000
set_option autoImplicit false
/-! EV: list(zip(a, b)); list, tuple of a range; as readings. -/
namespace EV
open PySem PySem.Spec PyProof.Rows L2

section
variable {X : Cx} {pins : List (Addr × Obj)} {σ : L2.St} {H H' : Hp} {s : Shared} {h' : Heap}
/-- several new objects at once -/
theorem inv_many {t' : Nat} (I : L2.Inv X pins σ H s) (k : ∀ b u, s.heap.get? b = some u → h'.get? b = some u) (hH : ∀ b, b < s.heap.objs.size → H' b = H b) (new : ∀ b u, s.heap.objs.size ≤ b → H' b = some u → L2.ObjOk X.prog X.w H' h' b u) :
    L2.Inv X pins σ H' { s with heap := h', toks := t' } := by
  have lt : ∀ b u, H b = some u → b < s.heap.objs.size := fun b u e => I.hok.lt e
  have up : ∀ b u, H b = some u → H' b = some u := fun b u e => by rw [hH b (lt b u e)]; exact e
  refine I.un ⟨fun b u q _ _ _ => k b u q, fun b u q _ _ _ => ⟨u.slots, k b u q⟩, fun b u q n _ => by rw [hH b (Heap.lt_size q)]; exact n, fun b u q _ => ⟨u, k b u q⟩, fun b xs q => up b _ q, fun b u xs q => up b _ q, fun b ps q => ⟨#[], by rw [up b _ q]; simp⟩⟩ fun b u e => ?_
  by_cases hb : b < s.heap.objs.size
  · rw [hH b hb] at e
    exact (I.hok b u e).stay (fun c v _ q => k c v q) (fun c q => up c _ q) fun c xs q => up c _ q
  · exact new b u (Nat.le_of_not_lt hb) e
end
def ixA : List Addr → Addr → Option Nat
  | [], _ => none
  | a :: as, b => if a = b then some 0 else (ixA as b).map (· + 1)
theorem ixA_none : ∀ {as : List Addr} {b : Addr}, b ∉ as → ixA as b = none
  | [], _, _ => rfl
  | a :: as, b, h => by
    unfold ixA
    rw [if_neg (fun z => h (by rw [z]; simp)), ixA_none fun z => h (List.mem_cons_of_mem _ z)]
    rfl
theorem ixA_at : ∀ {as : List Addr} {b : Addr} {j : Nat}, ixA as b = some j → as[j]? = some b
  | [], _, _, h => by cases h
  | a :: as, b, j, h => by
    unfold ixA at h
    split at h
    · rename_i e; cases h; rw [e]; rfl
    · simp only [Option.map_eq_some_iff] at h
      obtain ⟨i, h1, rfl⟩ := h
      simpa using ixA_at h1
theorem ixA_of : ∀ {as : List Addr} {b : Addr} {j : Nat}, as.Nodup → as[j]? = some b → ixA as b = some j
  | [], _, _, _, h => by simp at h
  | a :: as, b, j, hn, h => by
    rw [List.nodup_cons] at hn
    unfold ixA
    cases j with
    | zero => simp at h; rw [if_pos h]
    | succ i =>
      have h' : as[i]? = some b := by simpa using h
      rw [if_neg (fun (z : a = b) => hn.1 (by rw [z]; exact List.mem_of_getElem? h')), ixA_of hn.2 h']
      rfl
def rLz (K : PySem.W.Frag) : List V → Hp → VK → Prop := fun vs H Q => ∃ (a b : Addr) (xs ys : List V), vs = [.ref a, .ref b] ∧ ((L2.SqL K H a xs ∧ L2.SqL K H b ys) ∨ (L2.SqT K H a xs ∧ L2.SqT K H b ys)) ∧
  ∀ (p : Addr) (as : List Addr) (H' : Hp), H p = none → (∀ c u, H c = some u → H' c = some u) → H' p = some (.lst (as.map V.ref)) → as.length = min xs.length ys.length → p ∉ as → as.Nodup →
    (∀ (j : Nat) (c : Addr) (x y : V), as[j]? = some c → xs[j]? = some x → ys[j]? = some y → H c = none ∧ H' c = some (.tup [x, y])) → Q (.ref p) H'
/-- what the list's call leaves, as the layer says it -/
theorem lz_end {X : Cx} {pins : List (Addr × Obj)} {σ : L2.St} {H : Hp} {s : Shared} {Q : VK} {xs ys : List V} {us ws : List Value} {S : Addr} {h' : Heap} {tk : Nat} {acc : Array Value} {c : Nat} {as : List Addr} (I : L2.Inv X pins σ H s) (rx : Vals xs us) (ry : Vals ys ws) (hxz : xs.length ≤ sizeLine)
    (hS : s.heap.objs.size ≤ S) (hk : ∀ b o, s.heap.get? b = some o → h'.get? b = some o) (hl : h'.get? S = some { cls := .type "list", dict := none, data := .seq acc c, slots := #[] }) (hn : as.length = min us.toArray.size ws.toArray.size) (hp : PAt (min us.toArray.size ws.toArray.size) (zpr us.toArray ws.toArray) (S + 1) h' as) (hacc : acc.toList = as.map Value.ref)
    (hQ : ∀ (p : Addr) (as : List Addr) (H' : Hp), H p = none → (∀ c u, H c = some u → H' c = some u) → H' p = some (.lst (as.map V.ref)) → as.length = min xs.length ys.length → p ∉ as → as.Nodup →
    (∀ (j : Nat) (c : Addr) (x y : V), as[j]? = some c → xs[j]? = some x → ys[j]? = some y → H c = none ∧ H' c = some (.tup [x, y])) → Q (.ref p) H') :
    EP X pins σ Q (.ref S) { s with heap := h', toks := tk } := by
  have lx := rx.length
  have ly := ry.length
  have hn' : as.length = min xs.length ys.length := by rw [hn, List.size_toArray, List.size_toArray, lx, ly]
  have hSas : S ∉ as := fun z => absurd (hp.1 S z) (Nat.not_le.mpr (Nat.lt_succ_self S))
  -- the heap as the layer sees it
  let H' : Hp := fun b => if b = S then some (.lst (as.map V.ref)) else match ixA as b with
    | some j => (match xs[j]?, ys[j]? with | some x, some y => some (.tup [x, y]) | _, _ => H b)
    | none => H b
  have low : ∀ b, b < s.heap.objs.size → H' b = H b := fun b hb => by
    have h1 : b ≠ S := Nat.ne_of_lt (Nat.lt_of_lt_of_le hb hS)
    have h2 : ixA as b = none := by
      refine ixA_none fun z => ?_
      exact absurd (Nat.lt_of_lt_of_le hb hS) (Nat.not_lt.mpr (Nat.le_of_succ_le (hp.1 b z)))
    show (if b = S then _ else _) = _
    rw [if_neg h1, h2]
  have atS : H' S = some (.lst (as.map V.ref)) := if_pos rfl
  have atA : ∀ (j : Nat) (c : Addr) (x y : V), as[j]? = some c → xs[j]? = some x → ys[j]? = some y → H' c = some (.tup [x, y]) := fun j c x y h1 h2 h3 => by
    have hne : c ≠ S := fun z => hSas (z ▸ List.mem_of_getElem? h1)
    have hi : ixA as c = some j := ixA_of hp.2.2 h1
    show (if c = S then _ else _) = _
    rw [if_neg hne, hi]
    show (match xs[j]?, ys[j]? with | some x, some y => some (HO.tup [x, y]) | _, _ => H c) = _
    rw [h2, h3]
  have I' : L2.Inv X pins σ H' { s with heap := h', toks := tk } := by
    refine inv_many I hk low fun b u hb e => ?_
    by_cases hbS : b = S
    · subst hbS
      rw [atS] at e
      cases e
      refine ⟨by rw [List.length_map, hn']; exact Nat.le_trans (Nat.min_le_left _ _) hxz, acc.toList, c, ?_, by rw [Array.toArray_toList]; exact hl⟩
      rw [hacc]
      exact vals_refs as
    · have hHb : H b = none := I.hok.fresh hb
      have e' : (match ixA as b with
        | some j => (match xs[j]?, ys[j]? with | some x, some y => some (HO.tup [x, y]) | _, _ => H b)
        | none => H b) = some u := by
        have : H' b = _ := if_neg hbS
        rw [this] at e
        exact e
      split at e'
      · rename_i j hj
        split at e'
        · rename_i x y hx hy
          cases e'
          have hb' : as[j]? = some b := ixA_at hj
          obtain ⟨u1, hu1, ru1⟩ := rx.get hx
          obtain ⟨u2, hu2, ru2⟩ := ry.get hy
          have ho := hp.2.1 j b hb'
          have z1 : (zpr us.toArray ws.toArray j).1 = u1 := by unfold zpr; simp [hu1]
          have z2 : (zpr us.toArray ws.toArray j).2 = u2 := by unfold zpr; simp [hu2]
          rw [z1, z2] at ho
          exact ⟨by show 2 ≤ sizeLine; decide, [u1, u2], .cons ru1 (.cons ru2 .nil), ⟨_, ho, rfl, _, rfl⟩⟩
        · rw [hHb] at e'; cases e'
      · rw [hHb] at e'; cases e'
  refine ⟨.ref S, H', I', rfl, hQ S as H' (I.hok.fresh hS) (fun c u h => by rw [low c (I.hok.lt h)]; exact h) atS hn' hSas hp.2.2 fun j c x y h1 h2 h3 => ⟨I.hok.fresh ?_, atA j c x y h1 h2 h3⟩⟩
  exact Nat.le_trans hS (Nat.le_of_succ_le (hp.1 c (List.mem_of_getElem? h1)))

theorem pe_listZip {X : Cx} {e e2 : Expr} {ta : TA} {p pz pos posz : Pos} (hc : X.calm = true) (hg : Gl X "list") (hm : X.mg "list" = none) (hgz : Gl X "zip") (hmz : X.mg "zip" = none) (ha : PA X [e, e2] ta)
    (hs : starEach [e, e2] X.env = (false, eval e X.env) :: starEach [e2] X.env) (hpl : (backTo posz (starEach [e2] X.env)).any (·.1) = false) :
    PE X (.Call (.Name "list" p) [.Call (.Name "zip" pz) [e, e2] [] posz] [] pos) (tCB (rLz X.K) ta) := by
  refine ⟨fun pins s σ H Q I h => ?_⟩
  refine Call_ (ld_blt I hg hm boot_list (PyProof.Rows.callWith_type1 (args_cons ?_ rfl) rfl))
  refine Call_ (ld_blt I hgz hmz PyProof.Rows.boot_zip (PyProof.Rows.callWith_type1 (thn (ha.run posz pins s σ H _ I h) fun us s1 ⟨vs, H1, I1, r1, q1⟩ => ?_) hs hpl))
  obtain ⟨a, b, xs, ys, ex, hab, q⟩ := q1
  subst ex
  cases r1 with
  | cons r rr =>
    cases rr with
    | cons r' rr =>
      cases rr
      cases r
      cases r'
      have hh : X.A.handled = none := I1.ok.hd hc
      have ne5 : ∀ {n i j : Nat}, i ≠ j → n + i ≠ n + j := fun h z => h (Nat.add_left_cancel z)
      rcases hab with ⟨hqx, hqy⟩ | ⟨hqx, hqy⟩
      · obtain ⟨its, rv, p1, z1⟩ := I1.list hqx
        obtain ⟨its2, rv2, p2, _⟩ := I1.list hqy
        refine call_zip_2 p1.isList p2.isList fun h' hz hTI hTO h1 h2 hsz hk => args_nil ?_
        have D := zipApart_new (n := s1.heap.objs.size) p1.lt p2.lt
        have big : ∀ {c : Nat}, c < s1.heap.objs.size + 5 → h'.objs.size ≠ c := fun {c} hcc z => by rw [hsz] at z; omega
        have la : a < s1.heap.objs.size + 5 := Nat.lt_of_lt_of_le p1.lt (Nat.le_add_right _ _)
        have lb : b < s1.heap.objs.size + 5 := Nat.lt_of_lt_of_le p2.lt (Nat.le_add_right _ _)
        refine ps_call (s := { s1 with heap := h' }) hh (zl_src (xs := its.toArray) (ys := its2.toArray) D ⟨big (by omega), big (by omega), big (by omega), big (by omega), big (by omega), big la, big lb⟩ ⟨?_, ?_, ?_, ?_⟩) ?_ ?_ fun h'' tk acc c as hk2 hl hn hp hacc => ?_
        · show s1.heap.objs.size + 4 < h'.objs.size + 1; rw [hsz]; omega
        · show s1.heap.objs.size + 3 < h'.objs.size + 1; rw [hsz]; omega
        · show s1.heap.objs.size < h'.objs.size + 1; rw [hsz]; omega
        · show s1.heap.objs.size + 1 < h'.objs.size + 1; rw [hsz]; omega
        · have up : ∀ b o, h'.get? b = some o → (h'.push { cls := .type "list", data := .seq #[] }).get? b = some o := fun b o e => Heap.get?_push_of_some _ e
          exact ⟨up _ _ hTI, h1.at fun o e => up _ o e, h2.at fun o e => up _ o e, p1.isList.at fun o e => up _ o (hk _ o e), p2.isList.at fun o e => up _ o (hk _ o e), .inl ⟨rfl, up _ _ hz, _, _, up _ _ hTO⟩⟩
        · have := rv.length; rw [List.size_toArray]; exact Nat.le_trans (Nat.min_le_left _ _) (by rw [← this]; exact z1)
        · show EP X pins σ Q (.ref h'.objs.size) { s1 with heap := h'', toks := tk }
          refine lz_end (S := h'.objs.size) (s := s1) I1 rv rv2 z1 ?_ (fun b o e => hk2 b o ?_ (hk b o e)) hl hn hp hacc q
          · rw [hsz]; omega
          · have this : b < s1.heap.objs.size := Heap.lt_size e
            simp only [List.mem_cons, List.not_mem_nil, or_false, not_or]
            exact ⟨Nat.ne_of_lt (Nat.lt_of_lt_of_le this (Nat.le_add_right _ _)), Nat.ne_of_lt (Nat.lt_of_lt_of_le this (Nat.le_add_right _ _)), Nat.ne_of_lt this, Nat.ne_of_lt (Nat.lt_of_lt_of_le this (Nat.le_add_right _ _))⟩
      · obtain ⟨its, rv, p1, z1⟩ := I1.tuple hqx
        obtain ⟨its2, rv2, p2, _⟩ := I1.tuple hqy
        have t1 : s1.heap.IsTuple a its.toArray := p1
        have t2 : s1.heap.IsTuple b its2.toArray := p2
        have l1 : a < s1.heap.objs.size := p1.lt
        have l2 : b < s1.heap.objs.size := p2.lt
        refine RZ.call_zipT t1 t2 fun h' hz hTI hTO h1 h2 hsz hk => args_nil ?_
        have D := zipApart_new (n := s1.heap.objs.size) l1 l2
        have big : ∀ {c : Nat}, c < s1.heap.objs.size + 5 → h'.objs.size ≠ c := fun {c} hcc z => by rw [hsz] at z; omega
        have la : a < s1.heap.objs.size + 5 := Nat.lt_of_lt_of_le l1 (Nat.le_add_right _ _)
        have lb : b < s1.heap.objs.size + 5 := Nat.lt_of_lt_of_le l2 (Nat.le_add_right _ _)
        refine ps_call (s := { s1 with heap := h' }) hh (zt_src (xs := its.toArray) (ys := its2.toArray) D ⟨big (by omega), big (by omega), big (by omega), big (by omega), big (by omega), big la, big lb⟩ ⟨?_, ?_, ?_, ?_⟩) ?_ ?_ fun h'' tk acc c as hk2 hl hn hp hacc => ?_
        · show s1.heap.objs.size + 4 < h'.objs.size + 1; rw [hsz]; omega
        · show s1.heap.objs.size + 3 < h'.objs.size + 1; rw [hsz]; omega
        · show s1.heap.objs.size < h'.objs.size + 1; rw [hsz]; omega
        · show s1.heap.objs.size + 1 < h'.objs.size + 1; rw [hsz]; omega
        · have up : ∀ b o, h'.get? b = some o → (h'.push { cls := .type "list", data := .seq #[] }).get? b = some o := fun b o e => Heap.get?_push_of_some _ e
          exact ⟨up _ _ hTI, h1.at fun o e => up _ o e, h2.at fun o e => up _ o e, t1.at fun o e => up _ o (hk _ o e), t2.at fun o e => up _ o (hk _ o e), .inl ⟨rfl, up _ _ hz, _, _, up _ _ hTO⟩⟩
        · have := rv.length; rw [List.size_toArray]; exact Nat.le_trans (Nat.min_le_left _ _) (by rw [← this]; exact z1)
        · show EP X pins σ Q (.ref h'.objs.size) { s1 with heap := h'', toks := tk }
          refine lz_end (S := h'.objs.size) (s := s1) I1 rv rv2 z1 ?_ (fun b o e => hk2 b o ?_ (hk b o e)) hl hn hp hacc q
          · rw [hsz]; omega
          · have this : b < s1.heap.objs.size := Heap.lt_size e
            simp only [List.mem_cons, List.not_mem_nil, or_false, not_or]
            exact ⟨Nat.ne_of_lt (Nat.lt_of_lt_of_le this (Nat.le_add_right _ _)), Nat.ne_of_lt (Nat.lt_of_lt_of_le this (Nat.le_add_right _ _)), Nat.ne_of_lt this, Nat.ne_of_lt (Nat.lt_of_lt_of_le this (Nat.le_add_right _ _))⟩
end EV
end
section
set_option maxRecDepth 100000
set_option autoImplicit false
/-! EV: list(zip), list(range), tuple(range) by the evaluator. -/
namespace EV
open PySem L2
section
variable {k : Kx} {fl : List Str} {bs : List Nat} {X : Cx} {G G' : Hp} {m m' : List Addr} {S S' : Sto} {H H' : Hp}
theorem zipD_at : ∀ {xs ys : List EV.D} {i : Nat} {d : EV.D}, (zipD xs ys)[i]? = some d → ∃ x y, xs[i]? = some x ∧ ys[i]? = some y ∧ d = .tup [x, y]
  | [], _, i, d, h => by simp [zipD] at h
  | _ :: _, [], i, d, h => by simp [zipD] at h
  | x :: xs, y :: ys, i, d, h => by
    cases i with
    | zero => simp [zipD] at h; exact ⟨x, y, rfl, rfl, h.symm⟩
    | succ i =>
      obtain ⟨a, b, h1, h2, h3⟩ := zipD_at (xs := xs) (ys := ys) (i := i) (by simpa [zipD] using h)
      exact ⟨a, b, by simpa using h1, by simpa using h2, h3⟩
theorem newMany (s : Sim k fl bs G m S H) {as : List Addr} (up : ∀ c u, H c = some u → H' c = some u) (fr : ∀ c ∈ as, H c = none) : Sim k fl bs (fun c => if c ∈ as then H' c else G c) m S H' ∧ Ext G m H (fun c => if c ∈ as then H' c else G c) m H' ∧ (∀ c u, G c = some u → (fun c => if c ∈ as then H' c else G c) c = some u) := by
  have g : ∀ c u, G c = some u → (fun c => if c ∈ as then H' c else G c) c = some u := fun c u h => by
    have hn : c ∉ as := fun z => by have := s.sub c u h; rw [fr c z] at this; cases this
    show (if c ∈ as then H' c else G c) = _
    rw [if_neg hn]; exact h
  have mm : ∀ a ∈ m, H a ≠ none := fun a ha z => s.no_m z ha
  refine ⟨⟨fun c u h => ?_, s.len, s.nd, fun a ha => ?_, fun n c a h1 h2 => (s.cel n c a h1 h2).gen g (fun _ _ h => h) ?_, s.lo⟩, ⟨g, ⟨[], by simp⟩, fun a o h1 h2 h3 => ⟨up a o h3, ?_, h2⟩, fun a h => ?_⟩, g⟩
  · have h' : (if c ∈ as then H' c else G c) = some u := h
    split at h'
    · exact h'
    · exact up c u (s.sub c u h')
  · show (if a ∈ as then H' a else G a) = none
    rw [if_neg (fun z => mm a ha (fr a z))]; exact s.out a ha
  · cases h : H a with
    | none => exact absurd h (mm a (List.mem_of_getElem? h2))
    | some u => exact up a u h
  · show (if a ∈ as then H' a else G a) = none
    rw [if_neg (fun z => by rw [fr a z] at h3; cases h3)]; exact h1
  · cases h2 : H a with
    | none => rfl
    | some u => rw [up a u h2] at h; cases h
theorem zipF_inv (s : Sim k fl bs G m S H) {r : List EV.D} {vs : List V} {w : Wk} (rv : RVs k G m r vs) (e : zipF r S = some (w, S')) : S' = S ∧ ∃ a b xs ys us ws, vs = [.ref a, .ref b] ∧ w.1 = zipD xs ys ∧ RVs k G m xs us ∧ RVs k G m ys ws ∧ ((SqL k.K H a us ∧ SqL k.K H b ws) ∨ (SqT k.K H a us ∧ SqT k.K H b ws)) := by
  unfold zipF at e
  split at e
  · rename_i x y
    obtain ⟨v, q, rfl, rx, q0⟩ := rv.inv1
    obtain ⟨v2, q, rfl, ry, q0⟩ := q0.inv1
    rw [q0.inv0]
    split at e
    · rename_i xs ys h1 h2
      cases e
      obtain ⟨a, us, rfl, q1, q2⟩ := tupOf_ok s rx h1
      obtain ⟨b, ws, rfl, q3, q4⟩ := tupOf_ok s ry h2
      exact ⟨rfl, a, b, xs, ys, us, ws, rfl, rfl, q2, q4, .inr ⟨q1, q3⟩⟩
    · split at e
      · rename_i xs ys h1 h2
        cases e
        obtain ⟨a, us, rfl, q1, q2⟩ := lstOf_ok s rx h1
        obtain ⟨b, ws, rfl, q3, q4⟩ := lstOf_ok s ry h2
        exact ⟨rfl, a, b, xs, ys, us, ws, rfl, rfl, q2, q4, .inl ⟨q1, q3⟩⟩
      · cases e
  · cases e
theorem se_listZip {a a2 : Expr} {p pz pos posz : Pos} {g : En → Sto → Option (List EV.D × Sto)} (hK : k.K = X.K) (hc : X.calm = true) (hg : Gl X "list") (hm : X.mg "list" = none) (hgz : Gl X "zip") (hmz : X.mg "zip" = none) (hn : noStar a = true) (hn2 : noStar a2 = true) (ha : SA k fl bs X [a, a2] g) :
    SE k fl bs X (.Call (.Name "list" p) [.Call (.Name "zip" pz) [a, a2] [] posz] [] pos) (fun ρ S => ((g ρ S).bind fun r => zipF r.1 r.2).bind fun w => (lz w.1.1).map fun v => (v, w.2)) := by
  obtain ⟨t, pa, l⟩ := ha
  refine ⟨_, pe_listZip hc hg hm hgz hmz pa (star_no hn) (by rw [star_no hn2]; rfl), fun G m ρ S σ H z S' Q s re e hQ => ?_⟩
  simp only [Option.bind_eq_some_iff, Option.map_eq_some_iff, Prod.mk.injEq] at e
  obtain ⟨⟨w, S2⟩, ⟨⟨r, S1⟩, e1, e2⟩, v, e3, rfl, rfl⟩ := e
  refine l G m ρ S σ H r S1 _ s re e1 fun G1 m1 vs H1 x1 s1 r1 => ?_
  obtain ⟨rfl, a, b, xs, ys, us, ws, rfl, ew, ru, rw', hab⟩ := zipF_inv s1 r1 e2
  refine ⟨a, b, us, ws, rfl, hK ▸ hab, fun p as H' hp up hpl hlen hpas hnd htup => ?_⟩
  have hl : as.length = min xs.length ys.length := by rw [hlen, ru.length, rw'.length]
  have fr : ∀ c ∈ as, H1 c = none := fun c hcm => by
    obtain ⟨j, hj⟩ := List.mem_iff_getElem?.mp hcm
    have hjl : j < min us.length ws.length := hlen ▸ (List.getElem?_eq_some_iff.mp hj).1
    exact (htup j c _ _ hj (List.getElem?_eq_getElem (by omega)) (List.getElem?_eq_getElem (by omega))).1
  obtain ⟨s2, x2, g2⟩ := newMany s1 up fr
  have hz : v = .fl (zipD xs ys) := by
    unfold lz at e3
    split at e3
    · cases e3; rw [ew]
    · cases e3
  subst hz
  refine hQ _ m1 _ H' (x1.trans x2) s2 ⟨p, as.map V.ref, rfl, x1.dom p hp, hpl, ?_, s1.no_m hp, RVs.of_get (by rw [zipD_len, List.length_map, hl]) fun i d u hd hu => ?_⟩
  · show (if p ∈ as then H' p else G1 p) = none
    rw [if_neg hpas]; exact s1.gnone hp
  · obtain ⟨x, y, h1, h2, rfl⟩ := zipD_at hd
    rw [List.getElem?_map] at hu
    cases hc : as[i]? with
    | none => rw [hc] at hu; cases hu
    | some c =>
      rw [hc] at hu
      cases hu
      obtain ⟨vx, q1, q2⟩ := ru.get h1
      obtain ⟨vy, q3, q4⟩ := rw'.get h2
      obtain ⟨q5, q6⟩ := htup i c vx vy hc q1 q3
      simp only [RV]
      exact ⟨c, [vx, vy], rfl, by show (if c ∈ as then H' c else G1 c) = _; rw [if_pos (List.mem_of_getElem? hc)]; exact q6, .cons (q2.gen g2 fun _ _ h => h) (.one (q4.gen g2 fun _ _ h => h))⟩

/-! ranges -/
theorem rangeD_rel : ∀ (n : Nat) (lo : Int), RVs k G m (rangeD lo n) ((List.range n).map fun i => V.int (lo + (i : Nat)))
  | 0, lo => .nil
  | n + 1, lo => by
    rw [List.range_succ_eq_map, List.map_cons, List.map_map]
    refine .cons (by simp only [RV]; congr 1; omega) ?_
    have := rangeD_rel n (lo + 1)
    have e : ((fun i => V.int (lo + (i : Nat))) ∘ Nat.succ) = fun i : Nat => V.int (lo + 1 + (i : Nat)) := by
      funext i; simp only [Function.comp]; congr 1; omega
    rw [e]; exact this
def rng1F (d : EV.D) : Option (List EV.D) := match d with
  | .int n => if smallZ n = true then some (rangeD 0 n.toNat) else none
  | _ => none
def rng2F (d d' : EV.D) : Option (List EV.D) := match d, d' with
  | .int lo, .int hi => if (smallZ lo && smallZ hi) = true then some (rangeD lo (hi - lo).toNat) else none
  | _, _ => none
theorem lz_le {xs : List EV.D} {v : Vl} (h : lz xs = some v) : xs.length ≤ sizeLine ∧ v = .fl xs := by
  unfold lz at h; split at h
  · rename_i h1; cases h; exact ⟨h1, rfl⟩
  · cases h
theorem tz_le {xs : List EV.D} {v : Vl} (h : tz xs = some v) : xs.length ≤ sizeLine ∧ v = .d (.tup xs) := by
  unfold tz at h; split at h
  · rename_i h1; cases h; exact ⟨h1, rfl⟩
  · cases h
theorem se_listRg1 {a : Expr} {p pz pos posz : Pos} {f : En → Sto → Rd} (hc : X.calm = true) (hg : Gl X "list") (hm : X.mg "list" = none) (hgz : Gl X "range") (hmz : X.mg "range" = none) (hn : noStar a = true) (ha : SD k fl bs X a f) :
    SE k fl bs X (.Call (.Name "list" p) [.Call (.Name "range" pz) [a] [] posz] [] pos) (fun ρ S => (f ρ S).bind fun r => (rng1F r.1).bind fun xs => (lz xs).map fun v => (v, r.2)) := by
  obtain ⟨t, pa, l⟩ := ha
  refine ⟨_, pe_listRg hc hg hm (prg_1 hgz hmz pa (star_no hn)) rfl, fun G m ρ S σ H z S' Q s re e hQ => ?_⟩
  simp only [Option.bind_eq_some_iff, Option.map_eq_some_iff, Prod.mk.injEq] at e
  obtain ⟨⟨d, S1⟩, e1, xs, e2, v, e3, rfl, rfl⟩ := e
  refine l G m ρ S σ H d S1 _ s re e1 fun G1 m1 u H1 x1 s1 r1 => ?_
  unfold rng1F at e2
  split at e2
  · rename_i n hd
    split at e2
    · rename_i hz
      cases e2
      obtain ⟨hl, rfl⟩ := lz_le e3
      rw [rangeD_len, sizeLine_eq] at hl
      have hd : d = .int n := hd
      subst hd
      have a1 := smallZ_ok hz
      refine ⟨n, RV.int_inv r1, ⟨by omega, by omega, a1.1, a1.2, by omega⟩, new_lst (xs := rangeD 0 n.toNat) s1 ?_ fun G2 m2 w H2 x2 s2 r2 => hQ G2 m2 w H2 (x1.trans x2) s2 (r2.back x1)⟩
      unfold rgV
      rw [show n - 0 = n by omega]
      exact rangeD_rel n.toNat 0
    · cases e2
  · cases e2
theorem se_tupRg1 {a : Expr} {p pz pos posz : Pos} {f : En → Sto → Rd} (hc : X.calm = true) (hg : Gl X "tuple") (hm : X.mg "tuple" = none) (hgz : Gl X "range") (hmz : X.mg "range" = none) (hn : noStar a = true) (ha : SD k fl bs X a f) :
    SE k fl bs X (.Call (.Name "tuple" p) [.Call (.Name "range" pz) [a] [] posz] [] pos) (fun ρ S => (f ρ S).bind fun r => (rng1F r.1).bind fun xs => (tz xs).map fun v => (v, r.2)) := by
  obtain ⟨t, pa, l⟩ := ha
  refine ⟨_, pe_tupRg hc hg hm (prg_1 hgz hmz pa (star_no hn)) rfl, fun G m ρ S σ H z S' Q s re e hQ => ?_⟩
  simp only [Option.bind_eq_some_iff, Option.map_eq_some_iff, Prod.mk.injEq] at e
  obtain ⟨⟨d, S1⟩, e1, xs, e2, v, e3, rfl, rfl⟩ := e
  refine l G m ρ S σ H d S1 _ s re e1 fun G1 m1 u H1 x1 s1 r1 => ?_
  unfold rng1F at e2
  split at e2
  · rename_i n hd
    split at e2
    · rename_i hz
      cases e2
      obtain ⟨hl, rfl⟩ := tz_le e3
      rw [rangeD_len, sizeLine_eq] at hl
      have hd : d = .int n := hd
      subst hd
      have a1 := smallZ_ok hz
      refine ⟨n, RV.int_inv r1, ⟨by omega, by omega, a1.1, a1.2, by omega⟩, new_tup (xs := rangeD 0 n.toNat) s1 ?_ fun G2 m2 w H2 x2 s2 r2 => hQ G2 m2 w H2 (x1.trans x2) s2 (r2.back x1)⟩
      unfold rgV
      rw [show n - 0 = n by omega]
      exact rangeD_rel n.toNat 0
    · cases e2
  · cases e2
end
end EV
end
section
set_option maxRecDepth 100000
set_option autoImplicit false
set_option maxHeartbeats 2000000
/-! EV: enumerate over whatever is asked by nextOf (here: a tuple). -/
namespace EV
open PySem PySem.Spec PyProof.Rows L2 RZ

theorem meets_enumT (l : Addr) (items : Array Value) (n : Nat) (dct : Option Addr) (sl : Array (Option Value)) :
    Meets (Builtin.«enumerate.__new__» ⟨[.type "enumerate", .ref l], []⟩) (fun _ R z => z.heap.get? l = some { cls := .type "tuple", dict := dct, data := .seq items n, slots := sl } ∧
      R (.ok (.ret (.ref (z.heap.objs.size + 1)))) { z with heap := (z.heap.push { cls := .type "tuple_iterator", data := .fields #[.ref l, .int 0 0] }).push { cls := .type "enumerate", data := .fields #[.none, .bool false, .ref z.heap.objs.size, rawInt 0, .none, .none] } }) :=
  .of_wp fun P W B R z ⟨q1, q2⟩ => by
    obtain ⟨g, u1, u2, u3, u4⟩ := z
    have hsub := sub_enumerate
    have tup : Heap.IsTuple (Shared.heap ⟨g, u1, u2, u3, u4⟩) l items := ⟨_, q1, rfl, n, rfl⟩
    have fin : R (.ok (.ret (.ref (g.push { cls := .type "tuple_iterator", data := .fields #[.ref l, .int 0 0] }).objs.size))) ⟨(g.push { cls := .type "tuple_iterator", data := .fields #[.ref l, .int 0 0] }).push { cls := .type "enumerate", data := .fields #[.none, .bool false, .ref g.objs.size, rawInt 0, .none, .none] }, u1, u2, u3, u4⟩ := by
      rw [Heap.size_push]; exact q2
    wp_walk using AutoSeq1.wpAny_loadPart' q1
    refine wpAny_stack_any fun _ => wpAny_pure ?_
    split
    · rename_i k _ _ _ _ _
      by_cases hk : (k == Value.type "enumerate") = true
      all_goals (first | rw [hk] | rw [Bool.not_eq_true] at hk; rw [hk])
      all_goals (wp_walk using AutoSeq1.wpAny_loadPart' q1, wpAny_pyIter_tuple tup; exact ⟨_, rfl, fin⟩)
    · wp_walk using AutoSeq1.wpAny_loadPart' q1, wpAny_pyIter_tuple tup
      exact ⟨_, rfl, fin⟩
section
variable {P : Program} {W : World} {B : Around} {FX : Value → Shared → Prop} {z : Shared} {e it l : Addr} {i : Nat} {its : Array Value} {v old : Value}
theorem call_enumT {K : Value → Shared → Prop} (tup : z.heap.IsTuple l its)
    (k : ∀ g, IsEnum g (z.heap.objs.size + 1) z.heap.objs.size 0 .none → g.IsTupleIter z.heap.objs.size l 0 → g.objs.size = z.heap.objs.size + 2 → (∀ b o, z.heap.get? b = some o → g.get? b = some o) → K (.ref (z.heap.objs.size + 1)) { z with heap := g }) :
    wpAny (model P W) B (call (.type "enumerate") [.ref l]) K FX z := by
  obtain ⟨⟨c, dct, dt, sl⟩, q1, q2, n, q3⟩ := tup
  cases (q2 : c = .type "tuple")
  cases (q3 : dt = .seq its n)
  refine callType_new F.called_enumerate (by decide) (F.typeCall_enumerate_1 _) (F.newCall_enumerate_1 _) (F.args_object_init_2 · _) F.entry_enumerate_new (meets_enumT l its n dct sl) ⟨q1, ?_⟩
  have sz : (z.heap.push { cls := .type "tuple_iterator", data := .fields #[.ref l, .int 0 0] }).objs.size = z.heap.objs.size + 1 := by rw [Heap.size_push]
  have en : IsEnum ((z.heap.push { cls := .type "tuple_iterator", data := .fields #[.ref l, .int 0 0] }).push { cls := .type "enumerate", data := .fields #[.none, .bool false, .ref z.heap.objs.size, rawInt 0, .none, .none] }) (z.heap.objs.size + 1) z.heap.objs.size 0 .none := by
    rw [← sz]; exact Heap.get?_push_size _ rfl
  exact ⟨⟨_, en, rfl⟩, k _ en ⟨_, Heap.get?_push_of_some _ (Heap.get?_push_size _ rfl), rfl, rfl⟩ (by rw [Heap.size_push, sz]) fun b o q => Heap.get?_push_of_some _ (Heap.get?_push_of_some _ q)⟩
/-- what an enumerate's turn leaves -/
structure EnumWent (z : Shared) (g : Heap) (e it l : Addr) (i : Nat) (v : Value) : Prop where
  out : IsEnumOut g e it ((i : Int) + 1) v z.heap.objs.size
  inn : g.IsTupleIter it l (i + 1)
  pair : g.get? z.heap.objs.size = some { cls := .type "tuple", data := .seq #[.int i z.toks, v] }
  size : g.objs.size = z.heap.objs.size + 1
  rest : ∀ b o, b ≠ e → b ≠ it → z.heap.get? b = some o → g.get? b = some o
theorem enumT_item {K : Option Value → Shared → Prop} (he : IsEnum z.heap e it i old) (hit : z.heap.IsTupleIter it l i) (tup : z.heap.IsTuple l its) (hv : its[i]? = some v) (ne : e ≠ it)
    (k : ∀ g, EnumWent z g e it l i v → K (some (.ref z.heap.objs.size)) { z with heap := g, toks := z.toks + 1 }) : wpAny (model P W) B (pyNext (.ref e)) K FX z := by
  have ty : z.TypeIs (.ref e) "enumerate" := ⟨_, he, rfl⟩
  have en := ne.symm
  unfold pyNext
  refine wpAny_bind (wpAny_attempt (wpAny_callSpecial?_slot (name := Str.ofString "__next__") ty F.slot_enumerate_next (wpAny_call_entry F.slot_enumerate_next ty F.entry_enumerate_next ?_ (F.args_enumerate_next_1 _))))
  obtain ⟨h0, u1, u2, u3, u4⟩ := z
  have lte : e < h0.objs.size := Heap.lt_size he
  show wpAny _ _ (field (.ref e) 2 >>= _) _ _ _
  refine wpAny_bind (wpAny_field he rfl (x := .ref it) rfl (wpAny_bind (nextOf_tuple_item hit tup hv fun h1 (t1 : h1.IsTupleIter it l (i + 1)) (c1 : Heap.SameBut it h0 h1) => ?_)))
  have e1 : IsEnum h1 e it i old := (c1.2 e ne).trans he
  show wpAny _ _ (field (.ref e) 3 >>= _) _ _ ⟨h1, u1, u2, u3, u4⟩
  refine wpAny_bind (wpAny_field e1 rfl (x := rawInt i) rfl ?_)
  show wpAny _ _ (field (.ref e) 4 >>= _) _ _ ⟨h1, u1, u2, u3, u4⟩
  refine wpAny_bind (wpAny_field e1 rfl (x := .none) rfl ?_)
  show wpAny _ _ (mkInt i >>= _) _ _ ⟨h1, u1, u2, u3, u4⟩
  refine wpAny_bind (wpAny_mkInt ?_)
  show wpAny _ _ (setField (.ref e) 3 (rawInt ((i : Int) + 1)) >>= _) _ _ ⟨h1, u1, u2, u3 + 1, u4⟩
  refine wpAny_bind (wpAny_setField_rec e1 (by simp) fun h2 (e2 : IsEnum h2 e it ((i : Int) + 1) old) (c2 : Heap.SameBut e h1 h2) => ?_)
  show wpAny _ _ (setField (.ref e) 4 .none >>= _) _ _ ⟨h2, u1, u2, u3 + 1, u4⟩
  refine wpAny_bind (wpAny_setField_rec e2 (by simp) fun h3 (e3 : IsEnum h3 e it ((i : Int) + 1) old) (c3 : Heap.SameBut e h2 h3) => ?_)
  show wpAny _ _ (newTuple [.int i u3, v] >>= _) _ _ ⟨h3, u1, u2, u3 + 1, u4⟩
  refine wpAny_bind (wpAny_newTuple ?_)
  have sz3 : h3.objs.size = h0.objs.size := (c3.1.trans c2.1).trans c1.1
  rw [sz3]
  -- the heap with the pair
  obtain ⟨h4, eh4⟩ : ∃ h4, h4 = h3.push { cls := .type "tuple", data := .seq #[.int i u3, v] } := ⟨_, rfl⟩
  have up : ∀ b o, h3.get? b = some o → h4.get? b = some o := fun b o q => by rw [eh4]; exact Heap.get?_push_of_some _ q
  have e4 : IsEnum h4 e it ((i : Int) + 1) old := up _ _ e3
  have t4 : h4.IsTupleIter it l (i + 1) := t1.at fun o q => up _ o (c3.extBut _ _ en (c2.extBut _ _ en q))
  have p4 : h4.get? h0.objs.size = some { cls := .type "tuple", data := .seq #[.int i u3, v] } := by rw [eh4, ← sz3]; exact Heap.get?_push_size _ rfl
  have s4 : h4.objs.size = h0.objs.size + 1 := by rw [eh4, Heap.size_push, sz3]
  have r4 : ∀ b o, b ≠ e → b ≠ it → h0.get? b = some o → h4.get? b = some o := fun b o b1 b2 q => up b o (c3.extBut b o b1 (c2.extBut b o b1 (c1.extBut b o b2 q)))
  rw [← eh4]
  show wpAny _ _ (Builtin.SmallTypes.ownedTupleIsFree (.ref e) >>= _) _ _ ⟨h4, u1, u2, u3 + 1, u4⟩
  refine wpAny_bind ?_
  unfold Builtin.SmallTypes.ownedTupleIsFree
  refine wpAny_bind (wpAny_field e4 rfl (x := .none) rfl (wpAny_pure ?_))
  simp only [if_true]
  refine wpAny_bind (wpAny_rule (wpAny_bind (wpAny_field e4 rfl (x := old) rfl (wpAny_bind (wpAny_setField_rec e4 (by simp) fun h5 (e5 : IsEnum h5 e it ((i : Int) + 1) v) (c5 : Heap.SameBut e h4 h5) => ?_)))))
  show wpAny _ _ (Builtin.SmallTypes.ownedTupleHandOut (.ref e) (.ref h0.objs.size) >>= _) _ _ ⟨h5, u1, u2, u3 + 1, u4⟩
  refine wpAny_bind ?_
  unfold Builtin.SmallTypes.ownedTupleHandOut
  refine wpAny_bind (wpAny_setField_rec e5 (by simp) fun h6 (e6 : IsEnumOut h6 e it ((i : Int) + 1) v h0.objs.size) (c6 : Heap.SameBut e h5 h6) => ?_)
  refine wpAny_setField_rec e6 (by simp) fun h7 (e7 : IsEnumOut h7 e it ((i : Int) + 1) v h0.objs.size) (c7 : Heap.SameBut e h6 h7) => ?_
  have out : ∀ b o, b ≠ e → h4.get? b = some o → h7.get? b = some o := fun b o hb q => c7.extBut b o hb (c6.extBut b o hb (c5.extBut b o hb q))
  exact wpAny_bind (wpAny_letGo (wpAny_pure ⟨_, rfl, wpAny_pure (k h7 ⟨e7, t4.at fun o q => out _ o en q, out _ _ (Nat.ne_of_gt lte) p4, by rw [c7.1, c6.1, c5.1]; exact s4, fun b o b1 b2 q => out b o b1 (r4 b o b1 b2 q)⟩)⟩))
theorem enumT_end {K : Option Value → Shared → Prop} (hh : B.handled = none) (he : IsEnum z.heap e it i old) (hit : z.heap.IsTupleIter it l i) (tup : z.heap.IsTuple l its) (hv : its[i]? = none)
    (k : ∀ g, Heap.ExtBut it z.heap g → K none { z with heap := g }) : wpAny (model P W) B (pyNext (.ref e)) K FX z := by
  have ty : z.TypeIs (.ref e) "enumerate" := ⟨_, he, rfl⟩
  unfold pyNext
  refine wpAny_bind (wpAny_attempt (wpAny_callSpecial?_slot (name := Str.ofString "__next__") ty F.slot_enumerate_next (wpAny_call_entry F.slot_enumerate_next ty F.entry_enumerate_next ?_ (F.args_enumerate_next_1 _))))
  show wpAny _ _ (field (.ref e) 2 >>= _) _ _ _
  refine wpAny_bind (wpAny_field he rfl (x := .ref it) rfl (wpAny_bind (nextOf_tuple_end hh hit tup hv fun g x c ⟨o, ho, hc⟩ => ?_)))
  exact wpAny_bind (wpAny_isInstance (T := "StopIteration") (b := true) ⟨o, ho, hc⟩ isSubtype_stop (wpAny_pure (k _ c)))
end

/-! as something that is walked -/
/-- the tuple at a, each item in a new pair -/
def IteT (K : PySem.W.Frag) (a : Addr) : It where
  go i H := ∃ (xs : List V) (x : V), SqT K H a xs ∧ xs[i]? = some x
  yld i H v H' := ∃ T x, v = .ref T ∧ H T = none ∧ H' = upd H T (.tup [.int (i : Nat), x]) ∧ ∀ xs, SqT K H a xs → xs[i]? = some x
  stop i H := ∃ xs : List V, SqT K H a xs ∧ xs.length ≤ i
/-- where the enumerate stands -/
def EnumSt (a e it : Addr) (i : Nat) (h : Heap) : Prop := (∃ old, IsEnum h e it ((i : Nat) : Int) old) ∧ h.IsTupleIter it a i ∧ e ≠ it
theorem EnumSt.lts {a e it : Addr} {i : Nat} {h : Heap} (t : EnumSt a e it i h) : e < h.objs.size ∧ it < h.objs.size := by
  obtain ⟨⟨old, q⟩, ⟨o, r, _⟩, _⟩ := t
  exact ⟨Heap.lt_size q, Heap.lt_size r⟩
theorem turn_enumT {P : Program} {W : World} {K : PySem.W.Frag} {elts : List Expr} {kk : Nat} {tpos : Pos} (a e it : Addr) : Turn P W K (.Tuple elts kk tpos) (IteT K a) [e, it] e (EnumSt a e it) where
  mem := List.mem_cons_self
  obj i h t b hb := by
    obtain ⟨⟨old, q⟩, ⟨o, r, c, d⟩, _⟩ := t
    rcases List.mem_cons.mp hb with rfl | hb
    · exact ⟨_, q, fun v z => by cases z⟩
    · obtain rfl := List.mem_singleton.mp hb
      exact ⟨o, r, fun v z => by rw [d] at z; cases z⟩
  keep i h h' t k := by
    obtain ⟨⟨old, q⟩, r, n⟩ := t
    exact ⟨⟨old, k e List.mem_cons_self _ q⟩, r.at fun o z => k it (by simp) o z, n⟩
  item X hP hW hK hc i pins s σ H E I hf t g := by
    subst hP hW hK
    have lts := t.lts
    obtain ⟨⟨old, q⟩, r, n⟩ := t
    obtain ⟨xs, x, hq, hx⟩ := g
    obtain ⟨us, rv, tup, _⟩ := I.tuple hq
    obtain ⟨u, hu, ru⟩ := rv.get hx
    refine enumT_item q r tup (v := u) (by rw [List.getElem?_toArray]; exact hu) n fun h1 went => ⟨_, rfl, wpAny_letOwnedTupleGo_enum (s := { s with heap := h1, toks := s.toks + 1 }) went.out fun h2 q2 same => ?_⟩
    have pair := (same.2 _ (Nat.ne_of_gt lts.1)).trans went.pair
    have laid : L2.Inv X pins σ (upd H s.heap.objs.size (.tup [.int (i : Nat), x])) { s with heap := h2, toks := s.toks + 1 } :=
      I.turnedNew (ch := [e, it]) (fun b ob nb z => (same.2 b fun y => nb (by rw [y]; exact List.mem_cons_self)).trans (went.rest b ob (fun y => nb (by rw [y]; exact List.mem_cons_self)) (fun y => nb (by rw [y]; simp)) z)) hf (Nat.le_refl _)
        ⟨by show 2 ≤ sizeLine; decide, [.int i s.toks, u], .cons ⟨_, rfl⟩ (.cons ru .nil), ⟨_, pair, rfl, _, rfl⟩⟩
    refine ⟨.ref s.heap.objs.size, _, laid, rfl, ⟨_, x, rfl, I.hok.fresh (Nat.le_refl _), rfl, fun ys hy => ?_⟩, ⟨⟨u, by rw [show ((i + 1 : Nat) : Int) = (i : Int) + 1 by omega]; exact q2⟩, went.inn.at fun o z => (same.2 it n.symm).trans z, n⟩, fun b hb => ?_⟩
    · obtain rfl := I.tuple_inj hy hq
      exact hx
    · have lt : b < s.heap.objs.size := by
        rcases List.mem_cons.mp hb with rfl | hb
        · exact lts.1
        · rw [List.mem_singleton.mp hb]; exact lts.2
      rw [upd_ne (Nat.ne_of_lt lt)]
      exact (hf b hb).1
  done X hP hW hK hc i pins s σ H E I hf t g := by
    subst hP hW hK
    obtain ⟨⟨old, q⟩, r, n⟩ := t
    obtain ⟨xs, hq, hx⟩ := g
    obtain ⟨us, rv, tup, _⟩ := I.tuple hq
    obtain ⟨a0, a1, a2, a3, a4, a5⟩ := hf it (by simp)
    have len := rv.length
    refine enumT_end (I.ok.hd hc) q r tup (by rw [List.getElem?_toArray]; exact List.getElem?_eq_none (by omega)) fun h1 ex => ⟨rfl, I.turned (t' := s.toks) (fun b o nb z => ex b o nb z) a0 a1 a3 a4 a5⟩
  self A i s Q E t h := by
    obtain ⟨⟨old, q⟩, _⟩ := t
    exact wpAny_pyIter_enum q h
def iEnumT (K : PySem.W.Frag) (ta : TA) : TI := fun σ H R => ta σ H fun vs H1 => ∃ a xs, vs = [.ref a] ∧ SqT K H1 a xs ∧ R (IteT K a) H1
theorem pi_enumT {X : Cx} {x : Expr} {ta : TA} {p pos tpos : Pos} {elts : List Expr} {kk : Nat} (hg : Gl X "enumerate") (hm : X.mg "enumerate" = none) (ha : PA X [x] ta) (hs : starEach [x] X.env = [(false, eval x X.env)]) :
    PI X (.Tuple elts kk tpos) (.Call (.Name "enumerate" p) [x] [] pos) (iEnumT X.K ta) where
  run pins s σ H R I h := by
    refine Call_ (ld_blt I hg hm boot_enumerate (PyProof.Rows.callWith_type1 (thn (ha.run pos pins s σ H _ I h) fun us s1 ⟨vs, H1, I1, r1, a, xs, ex, hq, q⟩ => ?_) hs rfl))
    subst ex
    rw [Vals.ref1 r1]
    obtain ⟨its, rv, tup, _⟩ := I1.tuple hq
    refine call_enumT tup fun g en it sz kp => wpAny_pyIter_enum en ⟨s1.heap.objs.size + 1, [s1.heap.objs.size + 1, s1.heap.objs.size], _, _, H1, rfl, I1.kept (t' := s1.toks) kp, turn_enumT a (s1.heap.objs.size + 1) s1.heap.objs.size, ⟨⟨.none, en⟩, it, Nat.succ_ne_self _⟩, fun b hb => ?_, q⟩
    have le : s1.heap.objs.size ≤ b := by
      rcases List.mem_cons.mp hb with rfl | hb
      · exact Nat.le_succ _
      · rw [List.mem_singleton.mp hb]; exact Nat.le_refl _
    exact I1.fpOk le (I1.hok.fresh le)
theorem PI.or {X : Cx} {tg e : Expr} {w1 w2 : TI} (h1 : PI X tg e w1) (h2 : PI X tg e w2) : PI X tg e (fun σ H R => w1 σ H R ∨ w2 σ H R) :=
  ⟨fun pins s σ H R I h => h.elim (h1.run pins s σ H R I) (h2.run pins s σ H R I)⟩
section
variable {k : Kx} {fl : List Str} {bs : List Nat} {X : Cx}
theorem si_enum {es : List Expr} {n : Nat} {tpos : Pos} {a : Expr} {p pos : Pos} {f : En → Sto → Rd} (hK : k.K = X.K) (hg : Gl X "enumerate") (hm : X.mg "enumerate" = none) (hn : noStar a = true) (ha : SD k fl bs X a f) :
    SI k fl bs X (.Tuple es n tpos) (.Call (.Name "enumerate" p) [a] [] pos) (fun ρ S => (f ρ S).bind fun r => (seqOf r.2 r.1).map fun xs => ((enumD 0 xs, plOf r.1), r.2)) := by
  obtain ⟨w1, p1, l1⟩ := si_enumL (es := es) (n := n) (tpos := tpos) (p := p) (pos := pos) hK hg hm hn ha
  obtain ⟨t, pa, l⟩ := ha
  have st : starEach [a] X.env = [(false, eval a X.env)] := by rw [star_no hn]; rfl
  refine ⟨_, PI.or p1 (pi_enumT hg hm (pa_cons pa pa_nil (star_no hn)) st), fun G m ρ S σ H w S' R s re e hR => ?_⟩
  simp only [Option.bind_eq_some_iff, Option.map_eq_some_iff, Prod.mk.injEq] at e
  obtain ⟨⟨x, S1⟩, e1, xs, e2, rfl, rfl⟩ := e
  have e2 : seqOf S1 x = some xs := e2
  unfold seqOf at e2
  split at e2
  · rename_i ys hy
    cases e2
    refine .inr (l G m ρ S σ H x S1 _ s re e1 fun G1 m1 v H1 x1 s1 r1 => ?_)
    have r1 : RV k G1 m1 x v := r1
    obtain ⟨c, us, rfl, q1, q2⟩ := tupOf_ok s1 r1 hy
    refine ⟨c, us, rfl, hK ▸ q1, hR G1 m1 H1 _ x1 s1 fun i G2 m2 S2 H2 x2 s2 st => ?_⟩
    obtain ⟨ws, p3, p4⟩ := later_tup s1 r1 hy x2 s2
    refine ⟨fun d hd => ?_, fun hl => ⟨ws, hK ▸ p3, by rw [← p4.length, ← enumD_len xs 0]; exact hl⟩⟩
    obtain ⟨z1, hz1, rfl⟩ := enumD_get xs 0 i d hd
    obtain ⟨u1, p5, p6⟩ := p4.get hz1
    refine ⟨⟨ws, u1, hK ▸ p3, p5⟩, fun xv H3 hy => ?_⟩
    obtain ⟨T, a1, rfl, hT, rfl, b1⟩ := hy
    cases (b1 ws (hK ▸ p3)).symm.trans p5
    exact new_pair (x := .int (0 + (i : Int))) (v := .int (i : Nat)) s2 (by simp only [RV]; congr 1; omega) p6 hT
  · exact .inl (l1 G m ρ S σ H _ S1 R s re (by simp only [Option.bind_eq_some_iff, Option.map_eq_some_iff]; exact ⟨_, e1, xs, e2, rfl⟩) hR)
end
end EV
end
section
set_option maxRecDepth 100000
set_option autoImplicit false
/-! EV: the look that tells whether a literal is a def's text. -/
namespace EV
open PySem L2

/-- the names that numbers stand for -/
structure Nm where
  fl : List Str
  fn : List (Option Str)
  cl : List Str
  cn : List Str
  mt : List Str

abbrev Fs := Str → Bool
def glB (sc : Scope) (x : Str) : Bool := sc.names.lookup x == some .globalImplicit
def visB (sc : Scope) (x : Str) : Bool := sc.names.lookup x == some .local || sc.names.lookup x == some .cell || sc.names.lookup x == some .free
def locB (fn : Fs) (sc : Scope) (x : Str) : Bool := sc.names.lookup x == some .local || (fn x && sc.names.lookup x == some .cell)
def dbg (x : Str) : Bool := !(x == ("__debug__" : Str)) && !(x == ("__classdict__" : Str))
def tyNm (t : String) : Option Str := if t = "int" then some "int" else if t = "bool" then some "bool" else if t = "str" then some "str" else if t = "tuple" then some "tuple" else if t = "list" then some "list" else none
def plainT : Expr → Bool
  | .BoolOp .. => false
  | .UnaryOp .Not _ _ => false
  | .IfExp .. => false
  | .Compare .. => false
  | _ => true
def plIx : Expr → Bool
  | .Slice .. => false
  | _ => true
def notSet : Expr → Bool
  | .Set .. => false
  | _ => true
def cstC (sc : Scope) : D → Expr → Bool
  | .int i, .Constant (.int j) _ _ => i == j
  | .bl i, .Constant (.bool j) _ _ => i == j
  | .str i, .Constant (.str j) _ _ => decide (i = j)
  | .non, .Constant .none _ _ => true
  | .ty t, .Name x _ => tyNm t == some x && glB sc x
  | _, _ => false
def isTup : Expr → Bool
  | .Tuple .. => true
  | _ => false
def compSc : Expr → Option Scope
  | .ListComp _ _ s _ | .SetComp _ _ s _ | .DictComp _ _ _ s _ => some s
  | _ => none
/-- is the comprehension's value swapped into the name -/
def swB (v tg : Expr) (sc : Scope) : Bool := match compSc v with
  | none => false
  | some scope => match tg with
    | .Name t pos => bkOf sc == .function && sc.names.lookup t == some .local && pos.line == v.pos.line && !(scope.names.any fun (n, k) => n == t && (k == .local || k == .cell))
    | _ => false
theorem swB_eq {v tg : Expr} {l : Nat} {env : Env} : swapsWith v (some tg) l env = pure (swB v tg env.scope) := by
  unfold swapsWith swB
  cases v <;> first
    | rfl
    | (cases tg <;> rfl)
def swN (tgs : List Expr) (v : Expr) (sc : Scope) : Bool := match tgs, v with
  | [.Tuple ts _ _], .Tuple vs _ _ => (!(ts.length == 2 || ts.length == 3) || vs.length != ts.length || bkOf sc != .function) || vs.any isStar ||
      ((swNames ts sc).length != ts.length || (swNames ts sc).eraseDups.length != (swNames ts sc).length) || vs.all (foldedForSure 8)
  | [.List ..], .Tuple .. => false
  | _, _ => true
theorem swN_eq {tg v : Expr} {env : Env} (h : swN [tg] v env.scope = true) : swappedStores [tg] v env = pure none := by
  cases tg
  case Tuple ts a b =>
    cases v
    case Tuple vs c d =>
      rw [sw_tup]
      simp only [swN] at h
      split
      · rfl
      · split
        · rfl
        · split
          · rfl
          · split
            · rfl
            · rename_i h1 h2 h3 h4
              simp only [Bool.not_eq_true] at h1 h2 h3 h4
              simp only [h1, h2, h3, h4, Bool.or_false] at h
              cases h
    all_goals rfl
  case List ts b =>
    cases v
    case Tuple => simp [swN] at h
    all_goals rfl
  all_goals rfl
/-- swapped names -/
def swP (ts vs : List Expr) (sc : Scope) (ns : List Str) : Bool :=
  !(!(ts.length == 2 || ts.length == 3) || vs.length != ts.length || bkOf sc != .function) && !vs.any isStar &&
      !((swNames ts sc).length != ts.length || (swNames ts sc).eraseDups.length != (swNames ts sc).length) && !vs.all (foldedForSure 8) && !vs.all (constantsAlone 8) && decide (swNames ts sc = ns)
theorem swP_eq {ts vs : List Expr} {a c : Nat} {b d : Pos} {env : Env} {ns : List Str} (h : swP ts vs env.scope ns = true) : swappedStores [.Tuple ts a b] (.Tuple vs c d) env = pure (some ns) := by
  unfold swP at h
  simp only [Bool.and_eq_true, Bool.not_eq_true', decide_eq_true_eq] at h
  obtain ⟨⟨⟨⟨⟨h1, h2⟩, h3⟩, h4⟩, h5⟩, h6⟩ := h
  rw [sw_tup, if_neg (by rw [h1]; decide), if_neg (by rw [h2]; decide), if_neg (by rw [h3]; decide), if_neg (by rw [h4]; decide), if_neg (by rw [h5]; decide), h6]

section
variable (nm : Nm) (N : List Str)
def ownOf (own : List Nat) : List (Str × Nat) := own.map fun i => ((N[i]?).getD (""), i)
def ownFn (scope : Scope) : Fs := fun x => scope.names.lookup x == some .cell
mutual
def chkE : Ex → Fs → Scope → Expr → Bool
  | .var i, _, sc, e => match e with
    | .Name x _ => N[i]? == some x && visB sc x && dbg x
    | _ => false
  | .cst d, _, sc, e => cstC sc d e
  | .con i, _, sc, e => match e with
    | .Name x _ => nm.cn[i]? == some x && glB sc x && dbg x
    | _ => false
  | .new x, fn, sc, e => plainT e && chkE x fn sc e
  | .emK, _, _, e => match e with
    | .Dict [] [] _ => true
    | _ => false
  | .emT, _, _, e => match e with
    | .Dict [] [] _ => true
    | _ => false
  | .bin o a b, fn, sc, e => match e with
    | .BinOp x op y _ => decide (o = op) && chkE a fn sc x && chkE b fn sc y
    | _ => false
  | .neg a, fn, sc, e => match e with
    | .UnaryOp .USub x _ => chkE a fn sc x
    | _ => false
  | .cmp o a b, fn, sc, e => match e with
    | .Compare x [op] [y] _ => decide (o = op) && !behindInMarks op y && chkE a fn sc x && chkE b fn sc y
    | _ => false
  | .cmp2 o o' a b c, fn, sc, e => match e with
    | .Compare x [op, op'] [y, z] _ => decide (o = op) && decide (o' = op') && !lastMarks [op, op'] [y, z] && chkE a fn sc x && chkE b fn sc y && chkE c fn sc z
    | _ => false
  | .and a b, fn, sc, e => match e with
    | .BoolOp .And (x :: y :: rest) pos => chkE a fn sc x && (match rest with | [] => chkE b fn sc y | r :: rs => chkE b fn sc (.BoolOp .And (y :: r :: rs) pos))
    | _ => false
  | .or a b, fn, sc, e => match e with
    | .BoolOp .Or (x :: y :: rest) pos => chkE a fn sc x && (match rest with | [] => chkE b fn sc y | r :: rs => chkE b fn sc (.BoolOp .Or (y :: r :: rs) pos))
    | _ => false
  | .not a, fn, sc, e => match e with
    | .UnaryOp .Not x _ => chkE a fn sc x
    | _ => false
  | .ite c a b, fn, sc, e => match e with
    | .IfExp t x y _ => chkE c fn sc t && chkE a fn sc x && chkE b fn sc y
    | _ => false
  | .tup es, fn, sc, e => match e with
    | .Tuple xs _ _ => chkEs es fn sc xs
    | _ => false
  | .lst es, fn, sc, e => match e with
    | .List xs _ => chkEs es fn sc xs
    | _ => false
  | .call f es, fn, sc, e => match e with
    | .Call (.Name x _) xs [] _ => nm.fn[f]? == some (some x) && glB sc x && dbg x && xs.all noStar && chkEs es fn sc xs
    | _ => false
  | .mk C es, fn, sc, e => match e with
    | .Call (.Name x _) xs [] _ => nm.cl[C]? == some x && glB sc x && dbg x && xs.all noStar && chkEs es fn sc xs
    | _ => false
  | .meth o m es, fn, sc, e => match e with
    | .Call (.Attribute x name apos) xs [] pos => nm.mt[m]? == some name && notSup x && (apos.endLine == pos.line) && xs.all noStar && decide (xs.length < 30) && chkE o fn sc x && chkEs es fn sc xs
    | _ => false
  | .bf f es, fn, sc, e => match e with
    | .Call (.Name x _) xs [] _ => decide (x = f.nm) && glB sc x && !xs.isEmpty && xs.all noStar && chkEs es fn sc xs
    | _ => false
  | .bfi f it, fn, sc, e => match e with
    | .Call (.Name y _) [.Call (.Name z _) xs [] _] [] _ => glB sc y && glB sc z && (match f, it with
      | .list, .zip es => decide (y = "list") && decide (z = "zip") && xs.all noStar && xs.length == 2 && chkEs es fn sc xs
      | .list, .rng (.cons a .nil) => decide (y = "list") && decide (z = "range") && (match xs with | [x] => noStar x && chkE a fn sc x | _ => false)
      | .tuple, .rng (.cons a .nil) => decide (y = "tuple") && decide (z = "range") && (match xs with | [x] => noStar x && chkE a fn sc x | _ => false)
      | _, _ => false)
    | _ => false
  | .bm m o es, fn, sc, e => match e with
    | .Call (.Attribute x name apos) xs [] pos => decide (name = m.nm) && notSup x && (apos.endLine == pos.line) && xs.all noStar && decide (xs.length < 30) && chkE o fn sc x && chkEs es fn sc xs
    | _ => false
  | .ix a b, fn, sc, e => match e with
    | .Subscript x y _ => plIx y && chkE a fn sc x && chkE b fn sc y
    | _ => false
  | .sl a lo hi s, fn, sc, e => match e with
    | .Subscript x (.Slice l h st _) _ => stpC s st && chkE a fn sc x && chkO lo fn sc l && chkO hi fn sc h
    | _ => false
  | .fld o i, fn, sc, e => match e with
    | .Attribute x f _ => nm.fl[i]? == some f && notSup x && chkE o fn sc x
    | _ => false
  | .comp x own t it ifs, fn, sc, e => match e with
    | .ListComp elt [⟨tg, iter, is, 0⟩] scope _ => blkC N sc scope (ownOf N own) && notSet iter && t.slots.all (fun i => own.contains i) && chkI it fn sc iter tg && chkT t (ownFn scope) (relS scope sc) tg && chkIf ifs (ownFn scope) (relS scope sc) is &&
        chkE x (ownFn scope) (relS scope sc) elt
    | _ => false
  | .comp2 x own t it ifs t2 it2 ifs2, fn, sc, e => match e with
    | .ListComp elt [⟨tg, iter, is, 0⟩, ⟨tg2, iter2, is2, 0⟩] scope _ => blkC N sc scope (ownOf N own) && notSet iter && notSet iter2 && t.slots.all (fun i => own.contains i) && t2.slots.all (fun i => own.contains i) && chkI it fn sc iter tg && chkT t (ownFn scope) (relS scope sc) tg &&
        chkIf ifs (ownFn scope) (relS scope sc) is && chkI it2 (ownFn scope) (relS scope sc) iter2 tg2 && chkT t2 (ownFn scope) (relS scope sc) tg2 && chkIf ifs2 (ownFn scope) (relS scope sc) is2 && chkE x (ownFn scope) (relS scope sc) elt
    | _ => false
  | .dcomp x y own t it ifs, fn, sc, e => match e with
    | .DictComp kx vx [⟨tg, iter, is, 0⟩] scope _ => blkC N sc scope (ownOf N own) && notSet iter && t.slots.all (fun i => own.contains i) && chkI it fn sc iter tg && chkT t (ownFn scope) (relS scope sc) tg && chkIf ifs (ownFn scope) (relS scope sc) is &&
        chkE x (ownFn scope) (relS scope sc) kx && chkE y (ownFn scope) (relS scope sc) vx
    | _ => false
def chkEs : Exs → Fs → Scope → List Expr → Bool
  | .nil, _, _, xs => xs.isEmpty
  | .cons e es, fn, sc, xs => match xs with
    | x :: xs => noStar x && chkE e fn sc x && chkEs es fn sc xs
    | [] => false
  | .star e es, fn, sc, xs => match xs with
    | .Starred x _ :: xs => chkE e fn sc x && chkEs es fn sc xs
    | _ => false
/-- the tests of a comprehension -/
def chkIf : Exs → Fs → Scope → List Expr → Bool
  | .nil, _, _, xs => xs.isEmpty
  | .cons e es, fn, sc, xs => match xs with
    | [x] => chkE e fn sc x && (match es with | .nil => true | _ => false)
    | _ => false
  | .star _ _, _, _, _ => false
def chkO : Ox → Fs → Scope → Option Expr → Bool
  | .no, _, _, x => x.isNone
  | .so e, fn, sc, x => match x with
    | some x => chkE e fn sc x
    | none => false
def chkI : Src → Fs → Scope → Expr → Expr → Bool
  | .ex e, fn, sc, x, _ => chkE e fn sc x
  | .rng es, fn, sc, x, _ => match x with
    | .Call (.Name y _) xs [] _ => decide (y = "range") && glB sc y && xs.all noStar && (xs.length == 1 || xs.length == 2 || xs.length == 3) && chkEs es fn sc xs
    | _ => false
  | .zip es, fn, sc, x, tg => match x with
    | .Call (.Name y _) xs [] _ => decide (y = "zip") && glB sc y && xs.all noStar && xs.length == 2 && isTup tg && chkEs es fn sc xs
    | _ => false
  | .enum e, fn, sc, x, tg => match x with
    | .Call (.Name y _) [x] [] _ => decide (y = "enumerate") && glB sc y && noStar x && isTup tg && chkE e fn sc x
    | _ => false
  | .items _, _, _, _, _ => false
  | .vals _, _, _, _, _ => false
  | .rev _, _, _, _, _ => false
def chkT : Tg → Fs → Scope → Expr → Bool
  | .nm i, fn, sc, e => match e with
    | .Name x _ => N[i]? == some x && locB fn sc x
    | _ => false
  | .tup ts, fn, sc, e => match e with
    | .Tuple xs _ _ => xs.all noStar && chkTs ts fn sc xs
    | _ => false
  | .ix a b, fn, sc, e => match e with
    | .Subscript x y _ => plIx y && chkE a fn sc x && chkE b fn sc y
    | _ => false
  | .fld _ _, _, _, _ => false
def chkTs : Tgs → Fs → Scope → List Expr → Bool
  | .nil, _, _, xs => xs.isEmpty
  | .cons t ts, fn, sc, xs => match xs with
    | x :: xs => noStar x && chkT t fn sc x && chkTs ts fn sc xs
    | [] => false
end
def namesAt (is : List Nat) : List Str := is.map fun i => (N[i]?).getD ""
mutual
def chkS : Sm → Fs → Scope → Stmt → Bool
  | .set t e, fn, sc, s => match s with
    | .Assign [tg] v _ => noStar tg && (match swB v tg sc with
      | true => (match t, e, v, tg with
        | .nm i, .comp x own t' it ifs, .ListComp _ [⟨_, _, _, 0⟩] _ _, .Name y _ => N[i]? == some y && chkE nm N (.comp x own t' it ifs) fn sc v
        | .nm i, .comp2 x own t' it ifs t2 it2 ifs2, .ListComp _ [⟨_, _, _, 0⟩, ⟨_, _, _, 0⟩] _ _, .Name y _ => N[i]? == some y && chkE nm N (.comp2 x own t' it ifs t2 it2 ifs2) fn sc v
        | .nm i, .new (.comp x own t' it ifs), .ListComp _ [⟨_, _, _, 0⟩] _ _, .Name y _ => N[i]? == some y && chkE nm N (.comp x own t' it ifs) fn sc v
        | _, _, _, _ => false)
      | false => swN [tg] v sc && chkE nm N e fn sc v && (match t with
        | .fld o i => (match tg with
          | .Attribute x f _ => nm.fl[i]? == some f && chkE nm N o fn sc x
          | _ => false)
        | t => chkT nm N t fn sc tg))
    | _ => false
  | .par is es, fn, sc, s => match s with
    | .Assign [.Tuple ts _ _] (.Tuple vs _ _) _ => swP ts vs sc (namesAt N is) && decide (is.Nodup) && is.all (fun i => (N[i]?).isSome) && (is.length == 2 || is.length == 3) && vs.all noStar && chkEs nm N es fn sc vs
    | _ => false
  | .aug i o e, fn, sc, s => match s with
    | .AugAssign (.Name x _) op v _ => decide (o = op) && N[i]? == some x && locB fn sc x && chkE nm N e fn sc v
    | _ => false
  | .augIx a b o e, fn, sc, s => match s with
    | .AugAssign (.Subscript x y _) op v _ => decide (o = op) && plIx y && chkE nm N a fn sc x && chkE nm N b fn sc y && chkE nm N e fn sc v
    | _ => false
  | .augF a i o e, fn, sc, s => match s with
    | .AugAssign (.Attribute x f _) op v _ => decide (o = op) && nm.fl[i]? == some f && chkE nm N a fn sc x && chkE nm N e fn sc v
    | _ => false
  | .ex e, fn, sc, s => match s with
    | .Expr v _ => (compSc v).isNone && chkE nm N e fn sc v
    | _ => false
  | .ret e, fn, sc, s => match s with
    | .Return (some v) _ => chkE nm N e fn sc v
    | .Return none _ => (match e with | .cst .non => true | _ => false)
    | _ => false
  | .iff c a b, fn, sc, s => match s with
    | .If t x y _ => chkE nm N c fn sc t && chkSs a fn sc x && chkSs b fn sc y
    | _ => false
  | .for t it a, fn, sc, s => match s with
    | .For tg iter body [] _ => notSet iter && chkI nm N it fn sc iter tg && chkT nm N t fn sc tg && chkSs a fn sc body
    | _ => false
  | .whl c a, fn, sc, s => match s with
    | .While t body [] _ => chkE nm N c fn sc t && chkSs a fn sc body
    | _ => false
  | .brk, _, _, s => match s with | .Break _ => true | _ => false
  | .cnt, _, _, s => match s with | .Continue _ => true | _ => false
  | .pass, _, _, s => match s with | .Pass _ => true | _ => false
def chkSs : Sms → Fs → Scope → List Stmt → Bool
  | .nil, _, _, xs => xs.isEmpty
  | .cons s ss, fn, sc, xs => match xs with
    | x :: xs => chkS s fn sc x && chkSs ss fn sc xs
    | [] => false
end
end
end EV
end
section
set_option maxRecDepth 100000
set_option autoImplicit false
set_option maxHeartbeats 4000000
/-! EV: what the look says is what the layer reads. -/
namespace EV
open PySem L2

def bltNames : List Str := ["len", "tuple", "list", "sorted", "sum", "min", "max", "abs", "int", "any", "all", "isinstance", "dict", "set", "range", "zip", "enumerate", "bool", "str"]
/-- what is known of the world and of the defs that are called -/
structure Prm (P : Program) (w : World) (K : PySem.W.Frag) (mg : Str → Option Value) (base : Heap) (k : Kx) (nm : Nm) (pg : Pg) (n j : Nat) : Prop where
  hK : k.K = K
  cls : ClsOk k nm.fl
  blt : ∀ x ∈ bltNames, mg x = none
  con : ∀ i x d, nm.cn[i]? = some x → pg.con i = some d → ∃ u v, mg x = some u ∧ RelV v u ∧ ∀ G m, RV k G m d v
  fn : ∀ i x, nm.fn[i]? = some (some x) → C8.Cal P w K mg base n x (spR k nm.fl pg j i) []
  mak : ∀ C x, nm.cl[C]? = some x → ∃ f a, pg.ini C = some f ∧ k.ca C = some a ∧ C8.Mak P w K mg base n x a (spR k nm.fl pg j f) []
  mt : ∀ mi name, nm.mt[mi]? = some name → name ∉ nm.fl ∧ ∀ C f, pg.mth C mi = some f → ∃ a, k.ca C = some a ∧ C8.Met P w K mg base n a name (spR k nm.fl pg j f) []
structure XOk (P : Program) (w : World) (K : PySem.W.Frag) (mg : Str → Option Value) (base : Heap) (N : List Str) (n : Nat) (X : Cx) (fn : Fs) (sc : Scope) : Prop where
  prog : X.prog = P
  w : X.w = w
  K : X.K = K
  mg : X.mg = mg
  base : X.base = base
  N : X.N = N
  nd : X.N.Nodup
  sc : X.env.scope = sc
  fn : X.fn = fn
  calm : X.calm = true
  xe : X.xe = fun _ _ => False
  room : Room (n + 1) X.A
section
variable {P : Program} {w : World} {K : PySem.W.Frag} {mg : Str → Option Value} {base : Heap} {k : Kx} {nm : Nm} {pg : Pg} {n j : Nat} {N : List Str} {b : Nat} {bs : List Nat}
theorem XOk.blk {X Y : Cx} {fn : Fs} {sc scope : Scope} (x : XOk P w K mg base N n X fn sc) (h : Blk X Y scope) : XOk P w K mg base N n Y (ownFn scope) (relS scope sc) := by
  obtain ⟨s, H, C, cl, fp, rfl⟩ := h
  exact ⟨x.prog, x.w, x.K, x.mg, x.base, x.N, x.nd, by rw [← x.sc]; rfl, rfl, x.calm, rfl, x.room⟩
section
variable {X : Cx} {fn : Fs} {sc : Scope} (p : Prm P w K mg base k nm pg n j) (x : XOk P w K mg base N n X fn sc)
include x
theorem XOk.ru : Ru X := by have := x.room.un; show X.A.units + 64 < cLine; omega
theorem XOk.ru2 : X.A.units + 2 + 64 < cLine := by have := x.room.un; omega
theorem XOk.rm : Room n X.A := x.room.mono (Nat.le_succ _)
theorem XOk.gl {y : Str} (h : glB sc y = true) : Gl X y := by
  unfold glB at h
  show X.env.scope.names.lookup y = _
  rw [x.sc]; exact beq_iff_eq.mp h
theorem XOk.vis {y : Str} (h : visB sc y = true) : Vis X.env.scope y := by
  unfold visB at h
  simp only [Bool.or_eq_true, beq_iff_eq] at h
  rw [x.sc]
  rcases h with (h | h) | h
  · exact .inl h
  · exact .inr (.inl h)
  · exact .inr (.inr h)
theorem XOk.loc {y : Str} (h : locB fn sc y = true) : Loc X.env.scope y ∧ (X.fn y = true ∨ X.env.scope.names.lookup y = some .local) := by
  unfold locB at h
  simp only [Bool.or_eq_true, Bool.and_eq_true, beq_iff_eq] at h
  rw [x.sc, x.fn]
  rcases h with h | h
  · exact ⟨.inl h, .inr h⟩
  · exact ⟨.inr h.2, .inl h.1⟩
include p
theorem XOk.hk : k.K = X.K := by rw [p.hK, x.K]
theorem XOk.bl {y : Str} (h : y ∈ bltNames) : X.mg y = none := by rw [x.mg]; exact p.blt y h
theorem XOk.cal {i : Nat} {y : Str} (h : nm.fn[i]? = some (some y)) : C8.Cal X.prog X.w X.K X.mg X.base n y (spR k nm.fl pg j i) [] := by
  rw [x.prog, x.w, x.K, x.mg, x.base]; exact p.fn i y h
theorem XOk.mak {C : Nat} {y : Str} (h : nm.cl[C]? = some y) : ∃ f a, pg.ini C = some f ∧ k.ca C = some a ∧ C8.Mak X.prog X.w X.K X.mg X.base n y a (spR k nm.fl pg j f) [] := by
  rw [x.prog, x.w, x.K, x.mg, x.base]; exact p.mak C y h
theorem XOk.mtk {mi : Nat} {y : Str} (h : nm.mt[mi]? = some y) : MtOk k nm.fl X pg n j y mi := by
  obtain ⟨h1, h2⟩ := p.mt mi y h
  refine ⟨h1, ?_⟩
  rw [x.prog, x.w, x.K, x.mg, x.base]; exact h2
end
theorem dbg_ok {y : Str} (h : dbg y = true) : (y == ("__debug__" : Str)) = false ∧ (y == ("__classdict__" : Str)) = false := by
  unfold dbg at h
  simp only [Bool.and_eq_true, Bool.not_eq_true'] at h
  exact h
theorem Bf.mem (f : Bf) : f.nm ∈ bltNames := by cases f <;> decide
theorem plainT_is {e : Expr} (h : plainT e = true) (env : Env) (whole : Sem Value) : isTrue e env whole = (do let v ← whole; standAt e.pos; holding [v] (truthy v)) := by
  cases e <;> first
    | rfl
    | (simp [plainT] at h; done)
    | (rename_i op _ _; cases op <;> first | rfl | (simp [plainT] at h))
theorem tyNm_ok {t : String} {y : Str} (h : tyNm t = some y) : bootBuiltins y = some (.type t) ∧ y ∈ bltNames ∧ y ≠ "__name__" ∧ (y == ("__debug__" : Str)) = false := by
  unfold tyNm at h
  split at h
  · rename_i e; subst e; cases h; decide +kernel
  · split at h
    · rename_i e; subst e; cases h; decide +kernel
    · split at h
      · rename_i e; subst e; cases h; decide +kernel
      · split at h
        · rename_i e; subst e; cases h; decide +kernel
        · split at h
          · rename_i e; subst e; cases h; decide +kernel
          · cases h

end

/-! small equalities -/
section
variable {k : Kx} {fl : List Str} {bs : List Nat} {X : Cx}
theorem SA.cg {e : List Expr} {f g : En → Sto → Option (List EV.D × Sto)} (h : SA k fl bs X e f) (q : ∀ ρ S, f ρ S = g ρ S) : SA k fl bs X e g := by
  have : f = g := funext fun ρ => funext fun S => q ρ S
  exact this ▸ h
theorem STs.cg {e : List Expr} {f g : En → Sto → Option (Bool × Sto)} (h : STs k fl bs X e f) (q : ∀ ρ S, f ρ S = g ρ S) : STs k fl bs X e g := by
  have : f = g := funext fun ρ => funext fun S => q ρ S
  exact this ▸ h
theorem SO.cg {e : Option Expr} {f g : En → Sto → Option (Option Int × Sto)} (h : SO k fl bs X e f) (q : ∀ ρ S, f ρ S = g ρ S) : SO k fl bs X e g := by
  have : f = g := funext fun ρ => funext fun S => q ρ S
  exact this ▸ h
theorem SI.cg {t e : Expr} {f g : En → Sto → Option (Wk × Sto)} (h : SI k fl bs X t e f) (q : ∀ ρ S, f ρ S = g ρ S) : SI k fl bs X t e g := by
  have : f = g := funext fun ρ => funext fun S => q ρ S
  exact this ▸ h
theorem SG.cg {sl : List Nat} {e : Expr} {f g : EV.D → En → Sto → Option (En × Sto)} (h : SG k fl bs X sl e f) (q : ∀ d ρ S, f d ρ S = g d ρ S) : SG k fl bs X sl e g := by
  have : f = g := funext fun d => funext fun ρ => funext fun S => q d ρ S
  exact this ▸ h
theorem SGs.cg {sl : List Nat} {e : List Expr} {f g : List EV.D → En → Sto → Option (En × Sto)} (h : SGs k fl bs X sl e f) (q : ∀ d ρ S, f d ρ S = g d ρ S) : SGs k fl bs X sl e g := by
  have : f = g := funext fun d => funext fun ρ => funext fun S => q d ρ S
  exact this ▸ h
theorem SS.cg {e : Stmt} {f g : En → Sto → Option Out} (h : SS k fl bs X e f) (q : ∀ ρ S, f ρ S = g ρ S) : SS k fl bs X e g := by
  have : f = g := funext fun ρ => funext fun S => q ρ S
  exact this ▸ h
theorem SSs.cg {e : List Stmt} {f g : En → Sto → Option Out} (h : SSs k fl bs X e f) (q : ∀ ρ S, f ρ S = g ρ S) : SSs k fl bs X e g := by
  have : f = g := funext fun ρ => funext fun S => q ρ S
  exact this ▸ h
end
theorem tOf_cmp (r : Rd) (g : Sto → Rd) (f : Sto → EV.D → EV.D → Option Bool) : (r.bind fun p => (g p.2).bind fun q => (f q.2 p.1 q.1).map fun v => (v, q.2)) = tOf (dOf (r.bind fun p => (g p.2).bind fun q => (f q.2 p.1 q.1).map fun v => (Vl.d (.bl v), q.2))) := by
  cases r with
  | none => rfl
  | some p => cases h : g p.2 with
    | none => simp [h, tOf, dOf]
    | some q => cases h2 : f q.2 p.1 q.1 with
      | none => simp [h, h2, tOf, dOf]
      | some v => simp [h, h2, tOf, dOf, Vl.frz, truth]
theorem tOf_cmp2 (r : Rd) (g h : Sto → Rd) (f f' : Sto → EV.D → EV.D → Option Bool) : (r.bind fun p => (g p.2).bind fun q => (f q.2 p.1 q.1).bind fun v => if v = true then (h q.2).bind fun t => (f' t.2 q.1 t.1).map fun v => (v, t.2) else some (false, q.2)) =
    tOf (dOf (r.bind fun p => (g p.2).bind fun q => (f q.2 p.1 q.1).bind fun v => if v = true then (h q.2).bind fun t => (f' t.2 q.1 t.1).map fun v => (Vl.d (.bl v), t.2) else some (Vl.d (.bl false), q.2))) := by
  cases r with
  | none => rfl
  | some p => cases h1 : g p.2 with
    | none => simp [h1, tOf, dOf]
    | some q => cases h2 : f q.2 p.1 q.1 with
      | none => simp [h1, h2, tOf, dOf]
      | some v => cases v with
        | false => simp [h1, h2, tOf, dOf, Vl.frz, truth]
        | true => cases h3 : h q.2 with
          | none => simp [h1, h2, h3, tOf, dOf]
          | some t => cases h4 : f' t.2 q.1 t.1 with
            | none => simp [h1, h2, h3, h4, tOf, dOf]
            | some z => simp [h1, h2, h3, h4, tOf, dOf, Vl.frz, truth]
theorem tOf_not (r : Option (Bool × Sto)) : (r.map fun t => (!t.1, t.2)) = tOf (dOf (r.map fun t => (Vl.d (.bl (!t.1)), t.2))) := by
  cases r with
  | none => rfl
  | some p => simp [tOf, dOf, Vl.frz, truth]
theorem tOf_end (r : Option (Bool × Sto)) : (r.bind fun t => if t.1 = true then some (true, t.2) else some (false, t.2)) = r := by
  cases r with
  | none => rfl
  | some p => obtain ⟨v, S⟩ := p; cases v <;> rfl
theorem ownOf_snd {N : List Str} {own : List Nat} : (ownOf N own).map (·.2) = own := by
  unfold ownOf
  rw [List.map_map]
  exact List.map_id' own
theorem own_in {N : List Str} {own sl : List Nat} (h : sl.all (fun i => own.contains i) = true) : ∀ i ∈ sl, i ∈ (ownOf N own).map (·.2) := by
  intro i hi
  rw [List.all_eq_true] at h
  have := h i hi
  rw [ownOf_snd]
  simpa using this
theorem rg1_list {c : Cl} {b : Nat} {a : Ex} {ρ : En} {S : Sto} : ((dOf (ev c b a ρ S)).bind fun r => (rng1F r.1).bind fun xs => (lz xs).map fun v => (v, r.2)) = ev c b (.bfi .list (.rng (.cons a .nil))) ρ S := by
  simp only [ev, evi, evs]
  cases h : dOf (ev c b a ρ S) with
  | none => rfl
  | some r =>
    obtain ⟨d, S1⟩ := r
    simp only [Option.bind_some, Option.map_some]
    cases d <;> first | rfl | (simp only [rng1F]; split <;> rfl)
theorem rg1_tup {c : Cl} {b : Nat} {a : Ex} {ρ : En} {S : Sto} : ((dOf (ev c b a ρ S)).bind fun r => (rng1F r.1).bind fun xs => (tz xs).map fun v => (v, r.2)) = ev c b (.bfi .tuple (.rng (.cons a .nil))) ρ S := by
  simp only [ev, evi, evs]
  cases h : dOf (ev c b a ρ S) with
  | none => rfl
  | some r =>
    obtain ⟨d, S1⟩ := r
    simp only [Option.bind_some, Option.map_some]
    cases d <;> first | rfl | (simp only [rng1F]; split <;> rfl)
theorem assign_ix {o i : Expr} {pos : Pos} {env : Env} (h : plIx i = true) (v : Value) : assign (.Subscript o i pos) env v = (do
      let ov ← holding [v] (eval o env)
      let iv ← holding [v, ov] (eval i env)
      standAt pos
      holding [v, ov, iv] (setItem ov iv v)
      release [v, ov, iv] []) := by
  cases i <;> first | rfl | (simp [plIx] at h)
def Tgs.len : Tgs → Nat
  | .nil => 0
  | .cons _ ts => Tgs.len ts + 1
theorem asgs_len {c : Cl} {b n : Nat} : ∀ {ts : Tgs} {ds : List EV.D} {ρ : En} {S : Sto} {r : En × Sto}, n = ts.len → asgs c b ts ds ρ S = some r → ds.length = n
  | .nil, [], ρ, S, r, h, e => h.symm
  | .nil, _ :: _, ρ, S, r, h, e => by simp [asgs] at e
  | .cons t ts, [], ρ, S, r, h, e => by simp [asgs] at e
  | .cons t ts, d :: ds, ρ, S, r, h, e => by
    simp only [asgs, Option.bind_eq_some_iff] at e
    obtain ⟨q, _, e⟩ := e
    rw [List.length_cons, asgs_len rfl e, h]; rfl
theorem chkTs_len {nm : Nm} {N : List Str} {fn : Fs} {sc : Scope} : ∀ {ts : Tgs} {xs : List Expr}, chkTs nm N ts fn sc xs = true → xs.length = ts.len
  | .nil, xs, h => by
    simp only [chkTs, List.isEmpty_iff] at h
    subst h; rfl
  | .cons t ts, xs, h => by
    simp only [chkTs] at h
    split at h
    · simp only [Bool.and_eq_true] at h
      rw [List.length_cons, chkTs_len h.2]; rfl
    · cases h
theorem SI.le {k : Kx} {fl : List Str} {bs : List Nat} {X : Cx} {t e : Expr} {f g : En → Sto → Option (Wk × Sto)} (h : SI k fl bs X t e f) (q : ∀ ρ S r, g ρ S = some r → f ρ S = some r) : SI k fl bs X t e g := by
  obtain ⟨wi, p, l⟩ := h
  exact ⟨wi, p, fun G m ρ S σ H w S' R s re e hR => l G m ρ S σ H w S' R s re (q ρ S _ e) hR⟩
theorem evs_len {nm : Nm} {N : List Str} {fn : Fs} {sc : Scope} {c : Cl} {b : Nat} : ∀ {es : Exs} {xs : List Expr} {ρ : En} {S S' : Sto} {r : List EV.D}, chkEs nm N es fn sc xs = true → xs.all noStar = true → evs c b es ρ S = some (r, S') → r.length = xs.length
  | .nil, xs, ρ, S, S', r, h, _, e => by
    simp only [chkEs, List.isEmpty_iff] at h
    simp only [evs, Option.some.injEq, Prod.mk.injEq] at e
    rw [h, ← e.1]; rfl
  | .cons x es, xs, ρ, S, S', r, h, hn, e => by
    simp only [chkEs] at h
    split at h
    · simp only [Bool.and_eq_true, List.all_cons] at h hn
      simp only [evs, Option.bind_eq_some_iff, Option.map_eq_some_iff, Prod.mk.injEq] at e
      obtain ⟨q, _, ⟨q', S2⟩, e2, rfl, rfl⟩ := e
      simp only [List.length_cons]
      rw [evs_len h.2 hn.2 e2]
    · cases h
  | .star x es, xs, ρ, S, S', r, h, hn, e => by
    simp only [chkEs] at h
    split at h
    · simp [noStar] at hn
    · cases h
theorem rng_1 {c : Cl} {b : Nat} {es : Exs} {ρ : En} {S : Sto} {r : Wk × Sto} (hl : ∀ r S', evs c b es ρ S = some (r, S') → r.length = 1) (e : evi c b (.rng es) ρ S = some r) : ((evs c b es ρ S).bind fun r => match r.1 with
      | [.int n] => if smallZ n = true then some ((rangeD 0 n.toNat, []), r.2) else none
      | _ => none) = some r := by
  simp only [evi, Option.bind_eq_some_iff] at e ⊢
  obtain ⟨⟨xs, S1⟩, e1, e2⟩ := e
  refine ⟨_, e1, ?_⟩
  have := hl _ _ e1
  match xs, this with
  | [x], _ => cases x <;> first | exact e2 | cases e2
theorem rng_2 {c : Cl} {b : Nat} {es : Exs} {ρ : En} {S : Sto} {r : Wk × Sto} (hl : ∀ r S', evs c b es ρ S = some (r, S') → r.length = 2) (e : evi c b (.rng es) ρ S = some r) : ((evs c b es ρ S).bind fun r => match r.1 with
      | [.int lo, .int hi] => if (smallZ lo && smallZ hi) = true then some ((rangeD lo (hi - lo).toNat, []), r.2) else none
      | _ => none) = some r := by
  simp only [evi, Option.bind_eq_some_iff] at e ⊢
  obtain ⟨⟨xs, S1⟩, e1, e2⟩ := e
  refine ⟨_, e1, ?_⟩
  have := hl _ _ e1
  match xs, this with
  | [x, y], _ => cases x <;> first | (cases y <;> first | exact e2 | cases e2) | cases e2
theorem rng_3 {c : Cl} {b : Nat} {es : Exs} {ρ : En} {S : Sto} {r : Wk × Sto} (hl : ∀ r S', evs c b es ρ S = some (r, S') → r.length = 3) (e : evi c b (.rng es) ρ S = some r) : ((evs c b es ρ S).bind fun r => match r.1 with
      | [.int lo, .int hi, .int st] => if (smallZ lo && smallZ hi && (decide (st = -1) || decide (0 < st ∧ st < 1073741824))) = true then some ((rangeS lo st (rangeN lo hi st), []), r.2) else none
      | _ => none) = some r := by
  simp only [evi, Option.bind_eq_some_iff] at e ⊢
  obtain ⟨⟨xs, S1⟩, e1, e2⟩ := e
  refine ⟨_, e1, ?_⟩
  have := hl _ _ e1
  match xs, this with
  | [x, y, z], _ => cases x <;> first | (cases y <;> first | (cases z <;> first | exact e2 | cases e2) | cases e2) | cases e2
section
variable {P : Program} {w : World} {K : PySem.W.Frag} {mg : Str → Option Value} {base : Heap} {k : Kx} {nm : Nm} {pg : Pg} {n j : Nat} {N : List Str} {b : Nat} {bs : List Nat}

abbrev ES (k : Kx) (nm : Nm) (bs : List Nat) (X : Cx) (pg : Pg) (j b : Nat) (x : Ex) (e : Expr) : Prop :=
  SE k nm.fl bs X e (fun ρ S => ev (clOf pg j) b x ρ S) ∧ ST k nm.fl bs X e (fun ρ S => tOf (dOf (ev (clOf pg j) b x ρ S))) ∧
    ∀ op vs pos, e = .BoolOp op vs pos → SW k nm.fl bs X e (fun ρ S => tOf (dOf (ev (clOf pg j) b x ρ S)))
section
variable {X : Cx} {fn : Fs} {sc : Scope}
/-- an expression that is no test of its own kind -/
theorem es_plain {x : Ex} {e : Expr} (hK : k.K = X.K) (hp : plainT e = true) (h : SE k nm.fl bs X e (fun ρ S => ev (clOf pg j) b x ρ S)) : ES k nm bs X pg j b x e :=
  ⟨h, SD.t hK h.d (plainT_is hp X.env), fun op vs pos h => by subst h; simp [plainT] at hp⟩
theorem cst_ok {d : EV.D} {e : Expr} (x : XOk P w K mg base N n X fn sc) (p : Prm P w K mg base k nm pg n j) (h : cstC sc d e = true) : SE k nm.fl bs X e (fun _ S => some (.d d, S)) ∧ plainT e = true := by
  unfold cstC at h
  split at h
  · exact ⟨se_cst (v := .int _) (by rw [← beq_iff_eq.mp h]; exact pe_int) (fun G m => by simp only [RV]), rfl⟩
  · exact ⟨se_cst (v := .bl _) (by rw [← beq_iff_eq.mp h]; exact pe_bl) (fun G m => by simp only [RV]), rfl⟩
  · exact ⟨se_cst (v := .str _) (by rw [← of_decide_eq_true h]; exact pe_str) (fun G m => by simp only [RV]), rfl⟩
  · exact ⟨se_cst (v := .non) pe_non (fun G m => by simp only [RV]), rfl⟩
  · simp only [Bool.and_eq_true, beq_iff_eq] at h
    obtain ⟨h1, h2⟩ := h
    obtain ⟨h3, h4, h5, h6⟩ := tyNm_ok h1
    exact ⟨se_cst (v := .ty _) (pe_bltn (x.gl h2) (x.bl p h4) h3 rfl h5 h6) (fun G m => by simp only [RV]), rfl⟩
  · cases h
theorem notSet_is {it : Expr} (h : notSet it = true) (env : Env) (x : Value) : foldedSetIterable it env x = pure x := by
  cases it <;> first | rfl | (simp [notSet] at h)
mutual
theorem sE (hb : ∀ b' ∈ bs, b' ≤ b) (p : Prm P w K mg base k nm pg n j) : ∀ (x : Ex) {X : Cx} {fn : Fs} {sc : Scope} {e : Expr}, XOk P w K mg base N n X fn sc → chkE nm N x fn sc e = true → ES k nm bs X pg j b x e
  | .var i, X, fn, sc, e, xo, h => by
    simp only [chkE] at h
    split at h
    · simp only [Bool.and_eq_true, beq_iff_eq] at h
      obtain ⟨⟨h1, h2⟩, h3⟩ := h
      refine es_plain (xo.hk p) rfl ((se_var (by rw [xo.N]; exact h1) (xo.vis h2) (dbg_ok h3).1 (dbg_ok h3).2).cg fun ρ S => by simp only [ev])
    · cases h
  | .cst d, X, fn, sc, e, xo, h => by
    simp only [chkE] at h
    obtain ⟨h1, h2⟩ := cst_ok (bs := bs) xo p h
    exact es_plain (xo.hk p) h2 (h1.cg fun ρ S => by simp only [ev])
  | .con i, X, fn, sc, e, xo, h => by
    simp only [chkE] at h
    split at h
    · simp only [Bool.and_eq_true, beq_iff_eq] at h
      obtain ⟨⟨h1, h2⟩, h3⟩ := h
      cases hd : pg.con i with
      | none => exact es_plain (xo.hk p) rfl ⟨fun _ _ _ => False, ⟨fun _ _ _ _ _ _ h => h.elim⟩, fun G m ρ S σ H r S' Q s re e hQ => by simp [ev, hd] at e⟩
      | some d =>
        obtain ⟨u, v, h4, h5, h6⟩ := p.con i _ d h1 hd
        exact es_plain (xo.hk p) rfl ((se_cst (pe_glob (xo.gl h2) (by rw [xo.mg]; exact h4) h5 (dbg_ok h3).1) h6).cg fun ρ S => by simp [ev, hd])
    · cases h
  | .new y, X, fn, sc, e, xo, h => by
    simp only [chkE, Bool.and_eq_true] at h
    exact es_plain (xo.hk p) h.1 ((se_new (sE hb p y xo h.2).1).cg fun ρ S => by simp only [ev])
  | .emK, X, fn, sc, e, xo, h => by
    simp only [chkE] at h
    split at h
    · exact es_plain (xo.hk p) rfl (se_emK.cg fun ρ S => by simp only [ev])
    · cases h
  | .emT, X, fn, sc, e, xo, h => by
    simp only [chkE] at h
    split at h
    · exact es_plain (xo.hk p) rfl (se_emT.cg fun ρ S => by simp only [ev])
    · cases h
  | .bin o a c, X, fn, sc, e, xo, h => by
    simp only [chkE] at h
    split at h
    · simp only [Bool.and_eq_true, decide_eq_true_eq] at h
      obtain ⟨⟨h1, h2⟩, h3⟩ := h
      subst h1
      exact es_plain (xo.hk p) rfl ((se_bin (xo.hk p) (sE hb p a xo h2).1.d (sE hb p c xo h3).1.d).cg fun ρ S => by simp only [ev])
    · cases h
  | .neg a, X, fn, sc, e, xo, h => by
    simp only [chkE] at h
    split at h
    · exact es_plain (xo.hk p) rfl ((se_neg (sE hb p a xo h).1.d).cg fun ρ S => by simp only [ev] <;> rfl)
    · cases h
  | .cmp o a c, X, fn, sc, e, xo, h => by
    simp only [chkE] at h
    split at h
    · simp only [Bool.and_eq_true, decide_eq_true_eq, Bool.not_eq_true'] at h
      obtain ⟨⟨⟨h1, h0⟩, h2⟩, h3⟩ := h
      subst h1
      have ha := (sE hb p a xo h2).1.d
      have hc := (sE hb p c xo h3).1.d
      refine ⟨(se_cmp (xo.hk p) xo.ru h0 ha hc).cg fun ρ S => by simp only [ev], (st_cmp (xo.hk p) xo.ru h0 ha hc).cg fun ρ S => ?_, fun op vs pos h => by cases h⟩
      simp only [ev]
      exact tOf_cmp (dOf (ev (clOf pg j) b a ρ S)) (fun S => dOf (ev (clOf pg j) b c ρ S)) (fun S x y => cmpop o S x y)
    · cases h
  | .cmp2 o o' a c d, X, fn, sc, e, xo, h => by
    simp only [chkE] at h
    split at h
    · simp only [Bool.and_eq_true, decide_eq_true_eq, Bool.not_eq_true'] at h
      obtain ⟨⟨⟨⟨⟨h1, h1'⟩, h0⟩, h2⟩, h3⟩, h4⟩ := h
      subst h1 h1'
      have ha := (sE hb p a xo h2).1.d
      have hc := (sE hb p c xo h3).1.d
      have hd := (sE hb p d xo h4).1.d
      refine ⟨(se_cmp2 (xo.hk p) xo.ru h0 ha hc hd).cg fun ρ S => by simp only [ev], (st_cmp2 (xo.hk p) xo.ru h0 ha hc hd).cg fun ρ S => ?_, fun op vs pos h => by cases h⟩
      simp only [ev]
      exact tOf_cmp2 (dOf (ev (clOf pg j) b a ρ S)) (fun S => dOf (ev (clOf pg j) b c ρ S)) (fun S => dOf (ev (clOf pg j) b d ρ S)) (fun S x y => cmpop o S x y) (fun S x y => cmpop o' S x y)
    · cases h
  | .and a c, X, fn, sc, e, xo, h => by
    simp only [chkE] at h
    split at h
    · rename_i y z rest pos
      simp only [Bool.and_eq_true] at h
      obtain ⟨h1, h2⟩ := h
      obtain ⟨a1, a2, _⟩ := sE hb p a xo h1
      cases rest with
      | nil =>
        obtain ⟨c1, c2, _⟩ := sE hb p c xo h2
        have hw := (sw_and (pos := pos) a2 (sw_and1 c2)).cg (g := fun ρ S => tOf (dOf (ev (clOf pg j) b (.and a c) ρ S))) fun ρ S => by simp only [ev]; exact (tOf_and _ _).symm
        exact ⟨(se_and (xo.hk p) a1.d (se_one c1)).cg fun ρ S => by simp only [ev], hw.t, fun _ _ _ _ => hw⟩
      | cons r rs =>
        obtain ⟨c1, c2, c3⟩ := sE hb p c xo h2
        have hw := (sw_and (pos := pos) a2 (c3 _ _ _ rfl)).cg (g := fun ρ S => tOf (dOf (ev (clOf pg j) b (.and a c) ρ S))) fun ρ S => by simp only [ev]; exact (tOf_and _ _).symm
        exact ⟨(se_and (xo.hk p) a1.d c1).cg fun ρ S => by simp only [ev], hw.t, fun _ _ _ _ => hw⟩
    · cases h
  | .or a c, X, fn, sc, e, xo, h => by
    simp only [chkE] at h
    split at h
    · rename_i y z rest pos
      simp only [Bool.and_eq_true] at h
      obtain ⟨h1, h2⟩ := h
      obtain ⟨a1, a2, _⟩ := sE hb p a xo h1
      cases rest with
      | nil =>
        obtain ⟨c1, c2, _⟩ := sE hb p c xo h2
        have hw := (sw_or (pos := pos) a2 (sw_or1 c2)).cg (g := fun ρ S => tOf (dOf (ev (clOf pg j) b (.or a c) ρ S))) fun ρ S => by simp only [ev]; exact (tOf_or _ _).symm
        exact ⟨(se_or (xo.hk p) a1.d (se_one c1)).cg fun ρ S => by simp only [ev], hw.t, fun _ _ _ _ => hw⟩
      | cons r rs =>
        obtain ⟨c1, c2, c3⟩ := sE hb p c xo h2
        have hw := (sw_or (pos := pos) a2 (c3 _ _ _ rfl)).cg (g := fun ρ S => tOf (dOf (ev (clOf pg j) b (.or a c) ρ S))) fun ρ S => by simp only [ev]; exact (tOf_or _ _).symm
        exact ⟨(se_or (xo.hk p) a1.d c1).cg fun ρ S => by simp only [ev], hw.t, fun _ _ _ _ => hw⟩
    · cases h
  | .not a, X, fn, sc, e, xo, h => by
    simp only [chkE] at h
    split at h
    · obtain ⟨a1, a2, _⟩ := sE hb p a xo h
      refine ⟨(se_not (xo.hk p) a1.d).cg fun ρ S => by simp only [ev], (st_not a2).cg fun ρ S => ?_, fun op vs pos h => by cases h⟩
      simp only [ev]
      exact tOf_not _
    · cases h
  | .ite c a d, X, fn, sc, e, xo, h => by
    simp only [chkE] at h
    split at h
    · simp only [Bool.and_eq_true] at h
      obtain ⟨⟨h1, h2⟩, h3⟩ := h
      obtain ⟨_, c2, _⟩ := sE hb p c xo h1
      obtain ⟨a1, a2, _⟩ := sE hb p a xo h2
      obtain ⟨d1, d2, _⟩ := sE hb p d xo h3
      refine ⟨(se_ite c2 a1 d1).cg fun ρ S => by simp only [ev], (st_ite c2 a2 d2).cg fun ρ S => ?_, fun op vs pos h => by cases h⟩
      simp only [ev]
      exact (tOf_ite _ _ _).symm
    · cases h
  | .tup es, X, fn, sc, e, xo, h => by
    simp only [chkE] at h
    split at h
    · exact es_plain (xo.hk p) rfl ((se_tup (sEs hb p es xo h)).cg fun ρ S => by simp only [ev])
    · cases h
  | .lst es, X, fn, sc, e, xo, h => by
    simp only [chkE] at h
    split at h
    · exact es_plain (xo.hk p) rfl ((se_lst (sEs hb p es xo h)).cg fun ρ S => by simp only [ev])
    · cases h
  | .call f es, X, fn, sc, e, xo, h => by
    simp only [chkE] at h
    split at h
    · rename_i y _ xs _
      simp only [Bool.and_eq_true, beq_iff_eq] at h
      obtain ⟨⟨⟨⟨h1, h2⟩, h3⟩, h4⟩, h5⟩ := h
      have ha := sEs hb p es xo h5
      cases xs with
      | nil =>
        cases es with
        | nil => exact es_plain (xo.hk p) rfl ((se_call0 hb (xo.cal p h1) xo.rm (xo.gl h2) (dbg_ok h3).1).cg fun ρ S => by simp [ev, evs])
        | cons => simp [chkEs] at h5
        | star => simp [chkEs] at h5
      | cons z zs => exact es_plain (xo.hk p) rfl ((se_call hb (xo.cal p h1) xo.rm (xo.gl h2) (dbg_ok h3).1 h4 ha).cg fun ρ S => by simp only [ev])
    · cases h
  | .mk C es, X, fn, sc, e, xo, h => by
    simp only [chkE] at h
    split at h
    · rename_i y _ xs _
      simp only [Bool.and_eq_true, beq_iff_eq] at h
      obtain ⟨⟨⟨⟨h1, h2⟩, h3⟩, h4⟩, h5⟩ := h
      have ha := sEs hb p es xo h5
      obtain ⟨f, a, q1, q2, M⟩ := xo.mak p h1
      cases xs with
      | nil =>
        cases es with
        | nil => exact es_plain (xo.hk p) rfl ((se_mk0 hb q2 q1 M xo.room (xo.gl h2) (dbg_ok h3).1).cg fun ρ S => by simp [ev, evs])
        | cons => simp [chkEs] at h5
        | star => simp [chkEs] at h5
      | cons z zs => exact es_plain (xo.hk p) rfl ((se_mk hb q2 q1 M xo.room (xo.gl h2) (dbg_ok h3).1 h4 ha).cg fun ρ S => by simp only [ev])
    · cases h
  | .meth o mi es, X, fn, sc, e, xo, h => by
    simp only [chkE] at h
    split at h
    · rename_i y name apos xs pos
      simp only [Bool.and_eq_true, beq_iff_eq, decide_eq_true_eq] at h
      obtain ⟨⟨⟨⟨⟨⟨h1, h2⟩, h3⟩, h4⟩, h5⟩, h6⟩, h7⟩ := h
      have ha := sEs hb p es xo h7
      have ho := (sE hb p o xo h6).1.d
      cases xs with
      | nil =>
        cases es with
        | nil => exact es_plain (xo.hk p) rfl ((se_meth0 hb (xo.mtk p h1) xo.rm ho h2 (beq_iff_eq.mpr h3)).cg fun ρ S => by simp [ev, evs])
        | cons => simp [chkEs] at h7
        | star => simp [chkEs] at h7
      | cons z zs => exact es_plain (xo.hk p) rfl ((se_meth hb (xo.mtk p h1) xo.rm ho h2 (beq_iff_eq.mpr h3) h4 h5 ha).cg fun ρ S => by simp only [ev])
    · cases h
  | .bf f es, X, fn, sc, e, xo, h => by
    simp only [chkE] at h
    split at h
    · rename_i y _ xs _
      simp only [Bool.and_eq_true, decide_eq_true_eq] at h
      obtain ⟨⟨⟨⟨h1, h2⟩, h3⟩, h4⟩, h5⟩ := h
      subst h1
      have ha := sEs hb p es xo h5
      cases xs with
      | nil => simp at h3
      | cons z zs => exact es_plain (xo.hk p) rfl ((se_bf (xo.hk p) xo.calm xo.ru2 (xo.gl h2) (xo.bl p f.mem) h4 ha).cg fun ρ S => by simp only [ev])
    · cases h
  | .bfi f it, X, fn, sc, e, xo, h => by
    unfold chkE at h
    split at h
    · rename_i y _ z _ xs _ _
      simp only [Bool.and_eq_true] at h
      obtain ⟨⟨h1, h2⟩, h3⟩ := h
      split at h3
      · rename_i es
        simp only [Bool.and_eq_true, decide_eq_true_eq] at h3
        obtain ⟨⟨⟨⟨e1, e2⟩, e3⟩, e4⟩, e5⟩ := h3
        subst e1 e2
        have ha := sEs hb p es xo e5
        match xs, e4, e3, ha with
        | [z1, z2], _, e3, ha =>
          simp only [List.all_cons, Bool.and_eq_true] at e3
          exact es_plain (xo.hk p) rfl ((se_listZip (xo.hk p) xo.calm (xo.gl h1) (xo.bl p (y := "list") (by decide)) (xo.gl h2) (xo.bl p (y := "zip") (by decide)) e3.1 e3.2.1 ha).cg fun ρ S => by simp only [ev, evi])
      · rename_i a
        simp only [Bool.and_eq_true, decide_eq_true_eq] at h3
        obtain ⟨⟨e1, e2⟩, e3⟩ := h3
        subst e1 e2
        split at e3
        · rename_i x
          simp only [Bool.and_eq_true] at e3
          exact es_plain (xo.hk p) rfl ((se_listRg1 xo.calm (xo.gl h1) (xo.bl p (y := "list") (by decide)) (xo.gl h2) (xo.bl p (y := "range") (by decide)) e3.1 (sE hb p a xo e3.2).1.d).cg fun ρ S => rg1_list)
        · cases e3
      · rename_i a
        simp only [Bool.and_eq_true, decide_eq_true_eq] at h3
        obtain ⟨⟨e1, e2⟩, e3⟩ := h3
        subst e1 e2
        split at e3
        · rename_i x
          simp only [Bool.and_eq_true] at e3
          exact es_plain (xo.hk p) rfl ((se_tupRg1 xo.calm (xo.gl h1) (xo.bl p (y := "tuple") (by decide)) (xo.gl h2) (xo.bl p (y := "range") (by decide)) e3.1 (sE hb p a xo e3.2).1.d).cg fun ρ S => rg1_tup)
        · cases e3
      · cases h3
    · cases h
  | .bm mm o es, X, fn, sc, e, xo, h => by
    simp only [chkE] at h
    split at h
    · rename_i y name apos xs pos
      simp only [Bool.and_eq_true, beq_iff_eq, decide_eq_true_eq] at h
      obtain ⟨⟨⟨⟨⟨⟨h1, h2⟩, h3⟩, h4⟩, h5⟩, h6⟩, h7⟩ := h
      subst h1
      exact es_plain (xo.hk p) rfl ((se_bm (xo.hk p) xo.ru hb (sE hb p o xo h6).1.d (sEs hb p es xo h7) h2 (beq_iff_eq.mpr h3) h4 h5).cg fun ρ S => by simp only [ev])
    · cases h
  | .ix a c, X, fn, sc, e, xo, h => by
    simp only [chkE] at h
    split at h
    · simp only [Bool.and_eq_true] at h
      obtain ⟨⟨h1, h2⟩, h3⟩ := h
      exact es_plain (xo.hk p) rfl ((se_ix (xo.hk p) xo.ru (plainIx h1) (sE hb p a xo h2).1.d (sE hb p c xo h3).1.d).cg fun ρ S => by simp only [ev])
    · cases h
  | .sl a lo hi s, X, fn, sc, e, xo, h => by
    simp only [chkE] at h
    split at h
    · simp only [Bool.and_eq_true] at h
      obtain ⟨⟨⟨h1, h2⟩, h3⟩, h4⟩ := h
      exact es_plain (xo.hk p) rfl ((se_sl (xo.hk p) h1 (sE hb p a xo h2).1.d (sO hb p lo xo h3) (sO hb p hi xo h4)).cg fun ρ S => by simp only [ev])
    · cases h
  | .fld o i, X, fn, sc, e, xo, h => by
    simp only [chkE] at h
    split at h
    · simp only [Bool.and_eq_true, beq_iff_eq] at h
      obtain ⟨⟨h1, h2⟩, h3⟩ := h
      exact es_plain (xo.hk p) rfl ((se_fld (xo.hk p) p.cls h1 h2 (sE hb p o xo h3).1.d).cg fun ρ S => by simp only [ev])
    · cases h
  | .comp y own t it ifs, X, fn, sc, e, xo, h => by
    simp only [chkE] at h
    split at h
    · rename_i elt tg iter is scope pos
      simp only [Bool.and_eq_true] at h
      obtain ⟨⟨⟨⟨⟨⟨h1, h2⟩, h3⟩, h4⟩, h5⟩, h6⟩, h7⟩ := h
      refine es_plain (xo.hk p) rfl ((se_comp (own := ownOf N own) (sl := t.slots) xo.calm xo.nd (sI hb p it xo h4) (by rw [xo.N, xo.sc]; exact blkOk_by h1) ?_ (fun Y hy => sT hb p t (xo.blk hy) h5) (fun Y hy => sIf hb p ifs (xo.blk hy) h6)
        (fun Y hy => (sE hb p y (xo.blk hy) h7).1.d) (notSet_is h2 _)).cg fun ρ S => ?_)
      · intro i hi
        rw [List.all_eq_true] at h3
        have := h3 i hi
        rw [ownOf_snd]
        simpa using this
      · rw [ownOf_snd]; simp only [ev]
    · cases h
  | .comp2 y own t it ifs t2 it2 ifs2, X, fn, sc, e, xo, h => by
    simp only [chkE] at h
    split at h
    · rename_i elt tg iter is tg2 iter2 is2 scope pos
      simp only [Bool.and_eq_true] at h
      obtain ⟨⟨⟨⟨⟨⟨⟨⟨⟨⟨⟨h1, h2⟩, h2'⟩, h3⟩, h3'⟩, h4⟩, h5⟩, h6⟩, h8⟩, h9⟩, h10⟩, h7⟩ := h
      obtain ⟨t', l, pe, _⟩ := se_comp2 (pos := pos) (own := ownOf N own) (sl := t.slots) (sl1 := t2.slots) xo.calm xo.nd (sI hb p it xo h4) (by rw [xo.N, xo.sc]; exact blkOk_by h1) (own_in h3) (own_in h3') (fun Y hy => sT hb p t (xo.blk hy) h5) (fun Y hy => sIf hb p ifs (xo.blk hy) h6)
        (fun Y hy => sI hb p it2 (xo.blk hy) h8) (fun Y hy => sT hb p t2 (xo.blk hy) h9) (fun Y hy => sIf hb p ifs2 (xo.blk hy) h10) (fun Y hy => (sE hb p y (xo.blk hy) h7).1.d) (notSet_is h2 _) (fun env => notSet_is h2' env)
      refine es_plain (xo.hk p) rfl (SE.cg ⟨t', pe, l⟩ fun ρ S => ?_)
      rw [ownOf_snd]; simp only [ev]
    · cases h
  | .dcomp y z own t it ifs, X, fn, sc, e, xo, h => by
    simp only [chkE] at h
    split at h
    · rename_i kx vx tg iter is scope pos
      simp only [Bool.and_eq_true] at h
      obtain ⟨⟨⟨⟨⟨⟨⟨h1, h2⟩, h3⟩, h4⟩, h5⟩, h6⟩, h7⟩, h8⟩ := h
      refine es_plain (xo.hk p) rfl ((se_dcomp (own := ownOf N own) (sl := t.slots) xo.calm xo.nd (sI hb p it xo h4) (by rw [xo.N, xo.sc]; exact blkOk_by h1) (own_in h3) (fun Y hy => sT hb p t (xo.blk hy) h5) (fun Y hy => sIf hb p ifs (xo.blk hy) h6)
        (fun Y hy => (sE hb p y (xo.blk hy) h7).1.d) (fun Y hy => (sE hb p z (xo.blk hy) h8).1.d) (notSet_is h2 _)).cg fun ρ S => ?_)
      rw [ownOf_snd]; simp only [ev]
    · cases h
theorem sEs (hb : ∀ b' ∈ bs, b' ≤ b) (p : Prm P w K mg base k nm pg n j) : ∀ (es : Exs) {X : Cx} {fn : Fs} {sc : Scope} {xs : List Expr}, XOk P w K mg base N n X fn sc → chkEs nm N es fn sc xs = true → SA k nm.fl bs X xs (fun ρ S => evs (clOf pg j) b es ρ S)
  | .nil, X, fn, sc, xs, xo, h => by
    simp only [chkEs, List.isEmpty_iff] at h
    subst h
    exact sa_nil.cg fun ρ S => by simp only [evs]
  | .cons e es, X, fn, sc, xs, xo, h => by
    simp only [chkEs] at h
    split at h
    · simp only [Bool.and_eq_true] at h
      obtain ⟨⟨h1, h2⟩, h3⟩ := h
      exact (sa_cons h1 (sE hb p e xo h2).1.d (sEs hb p es xo h3)).cg fun ρ S => by simp only [evs]
    · cases h
  | .star e es, X, fn, sc, xs, xo, h => by
    simp only [chkEs] at h
    split at h
    · simp only [Bool.and_eq_true] at h
      exact (sa_star (xo.hk p) (sE hb p e xo h.1).1.d (sEs hb p es xo h.2)).cg fun ρ S => by simp only [evs]
    · cases h
theorem sIf (hb : ∀ b' ∈ bs, b' ≤ b) (p : Prm P w K mg base k nm pg n j) : ∀ (es : Exs) {X : Cx} {fn : Fs} {sc : Scope} {xs : List Expr}, XOk P w K mg base N n X fn sc → chkIf nm N es fn sc xs = true → STs k nm.fl bs X xs (fun ρ S => evt (clOf pg j) b es ρ S)
  | .nil, X, fn, sc, xs, xo, h => by
    simp only [chkIf, List.isEmpty_iff] at h
    subst h
    exact sts_nil.cg fun ρ S => by simp only [evt]
  | .cons e es, X, fn, sc, xs, xo, h => by
    simp only [chkIf] at h
    split at h
    · simp only [Bool.and_eq_true] at h
      obtain ⟨h1, h2⟩ := h
      cases es with
      | nil => exact (sts_one (sE hb p e xo h1).2.1).cg fun ρ S => by simp only [evt]; exact (tOf_end _).symm
      | cons => cases h2
      | star => cases h2
    · cases h
  | .star e es, X, fn, sc, xs, xo, h => by simp [chkIf] at h
theorem sO (hb : ∀ b' ∈ bs, b' ≤ b) (p : Prm P w K mg base k nm pg n j) : ∀ (o : Ox) {X : Cx} {fn : Fs} {sc : Scope} {x : Option Expr}, XOk P w K mg base N n X fn sc → chkO nm N o fn sc x = true → SO k nm.fl bs X x (fun ρ S => evo (clOf pg j) b o ρ S)
  | .no, X, fn, sc, x, xo, h => by
    simp only [chkO, Option.isNone_iff_eq_none] at h
    subst h
    exact so_none.cg fun ρ S => by simp only [evo]
  | .so e, X, fn, sc, x, xo, h => by
    simp only [chkO] at h
    split at h
    · exact (so_some (sE hb p e xo h).1.d).cg fun ρ S => by simp only [evo] <;> rfl
    · cases h
theorem sI (hb : ∀ b' ∈ bs, b' ≤ b) (p : Prm P w K mg base k nm pg n j) : ∀ (s : Src) {X : Cx} {fn : Fs} {sc : Scope} {x tg : Expr}, XOk P w K mg base N n X fn sc → chkI nm N s fn sc x tg = true → SI k nm.fl bs X tg x (fun ρ S => evi (clOf pg j) b s ρ S)
  | .ex e, X, fn, sc, x, tg, xo, h => by
    simp only [chkI] at h
    exact (si_ex (xo.hk p) (sE hb p e xo h).1.d).cg fun ρ S => by simp only [evi]
  | .rng es, X, fn, sc, x, tg, xo, h => by
    simp only [chkI] at h
    split at h
    · rename_i y _ xs _
      simp only [Bool.and_eq_true, decide_eq_true_eq] at h
      obtain ⟨⟨⟨⟨h1, h2⟩, h3⟩, h4⟩, h5⟩ := h
      subst h1
      have ha := sEs hb p es xo h5
      have hm := xo.bl p (y := "range") (by decide)
      cases xs with
      | nil => simp at h4
      | cons z1 zs =>
        simp only [List.all_cons, Bool.and_eq_true] at h3
        cases zs with
        | nil => exact (si_rng1 (xo.gl h2) hm h3.1 ha).le fun ρ S r e => rng_1 (fun r S' q => evs_len h5 (by simp [h3.1]) q) e
        | cons z2 zs =>
          simp only [List.all_cons, Bool.and_eq_true] at h3
          cases zs with
          | nil => exact (si_rng2 (xo.gl h2) hm h3.1 h3.2.1 ha).le fun ρ S r e => rng_2 (fun r S' q => evs_len h5 (by simp [h3.1, h3.2.1]) q) e
          | cons z3 zs =>
            cases zs with
            | nil =>
              simp only [List.all_cons, Bool.and_eq_true] at h3
              exact (si_rng3 (xo.gl h2) hm h3.1 h3.2.1 h3.2.2.1 ha).le fun ρ S r e => rng_3 (fun r S' q => evs_len h5 (by simp [h3.1, h3.2.1, h3.2.2.1]) q) e
            | cons => simp at h4
    · cases h
  | .zip es, X, fn, sc, x, tg, xo, h => by
    simp only [chkI] at h
    split at h
    · rename_i y _ xs _
      simp only [Bool.and_eq_true, decide_eq_true_eq] at h
      obtain ⟨⟨⟨⟨⟨h1, h2⟩, h3⟩, h4⟩, h5⟩, h6⟩ := h
      subst h1
      have ha := sEs hb p es xo h6
      cases xs with
      | nil => simp at h4
      | cons z1 zs =>
        cases zs with
        | nil => simp at h4
        | cons z2 zs =>
          cases zs with
          | cons => simp at h4
          | nil =>
            simp only [List.all_cons, Bool.and_eq_true] at h3
            cases tg <;> simp only [isTup, Bool.false_eq_true] at h5
            exact (si_zip (xo.hk p) (xo.gl h2) (xo.bl p (y := "zip") (by decide)) h3.1 h3.2.1 ha).cg fun ρ S => by simp only [evi] <;> rfl
    · cases h
  | .enum e, X, fn, sc, x, tg, xo, h => by
    simp only [chkI] at h
    split at h
    · rename_i y _ z _
      simp only [Bool.and_eq_true, decide_eq_true_eq] at h
      obtain ⟨⟨⟨⟨h1, h2⟩, h3⟩, h4⟩, h5⟩ := h
      subst h1
      cases tg <;> simp only [isTup, Bool.false_eq_true] at h4
      exact (si_enum (xo.hk p) (xo.gl h2) (xo.bl p (y := "enumerate") (by decide)) h3 (sE hb p e xo h5).1.d).cg fun ρ S => by simp only [evi]
    · cases h
  | .items _, X, fn, sc, x, tg, xo, h => by simp [chkI] at h
  | .vals _, X, fn, sc, x, tg, xo, h => by simp [chkI] at h
  | .rev _, X, fn, sc, x, tg, xo, h => by simp [chkI] at h
theorem sT (hb : ∀ b' ∈ bs, b' ≤ b) (p : Prm P w K mg base k nm pg n j) : ∀ (t : Tg) {X : Cx} {fn : Fs} {sc : Scope} {e : Expr}, XOk P w K mg base N n X fn sc → chkT nm N t fn sc e = true → SG k nm.fl bs X t.slots e (fun d ρ S => asg (clOf pg j) b t d ρ S)
  | .nm i, X, fn, sc, e, xo, h => by
    simp only [chkT] at h
    split at h
    · simp only [Bool.and_eq_true, beq_iff_eq] at h
      obtain ⟨h2, h3⟩ := xo.loc h.2
      exact (sg_nm xo.nd (by rw [xo.N]; exact h.1) h2 h3).cg fun d ρ S => by simp only [asg]
    · cases h
  | .tup ts, X, fn, sc, e, xo, h => by
    simp only [chkT] at h
    split at h
    · simp only [Bool.and_eq_true] at h
      exact (sg_tup (xo.hk p) xo.calm h.1 (sTs hb p ts xo h.2) (fun ds ρ S r hr => asgs_len (chkTs_len h.2) hr)).cg fun d ρ S => by simp only [asg]
    · cases h
  | .ix a c, X, fn, sc, e, xo, h => by
    simp only [chkT] at h
    split at h
    · simp only [Bool.and_eq_true] at h
      obtain ⟨⟨h1, h2⟩, h3⟩ := h
      exact (sg_ix xo.ru hb (sE hb p a xo h2).1.d (sE hb p c xo h3).1.d (assign_ix h1)).cg fun d ρ S => by simp only [asg]
    · cases h
  | .fld o i, X, fn, sc, e, xo, h => by simp [chkT] at h
theorem sTs (hb : ∀ b' ∈ bs, b' ≤ b) (p : Prm P w K mg base k nm pg n j) : ∀ (ts : Tgs) {X : Cx} {fn : Fs} {sc : Scope} {xs : List Expr}, XOk P w K mg base N n X fn sc → chkTs nm N ts fn sc xs = true → SGs k nm.fl bs X ts.slots xs (fun ds ρ S => asgs (clOf pg j) b ts ds ρ S)
  | .nil, X, fn, sc, xs, xo, h => by
    simp only [chkTs, List.isEmpty_iff] at h
    subst h
    exact sgs_nil.cg fun ds ρ S => by cases ds <;> simp only [asgs]
  | .cons t ts, X, fn, sc, xs, xo, h => by
    simp only [chkTs] at h
    split at h
    · simp only [Bool.and_eq_true] at h
      obtain ⟨⟨h1, h2⟩, h3⟩ := h
      exact (sgs_cons h1 (sT hb p t xo h2) (sTs hb p ts xo h3)).cg fun ds ρ S => by cases ds <;> simp only [asgs]
    · cases h
end
end
end
end EV
end
section
set_option maxRecDepth 100000
set_option autoImplicit false
set_option maxHeartbeats 4000000
/-! EV: what the look says of statements. -/
namespace EV
open PySem L2

section
variable {P : Program} {w : World} {K : PySem.W.Frag} {mg : Str → Option Value} {base : Heap} {k : Kx} {nm : Nm} {pg : Pg} {n j : Nat} {N : List Str} {b : Nat} {bs : List Nat}

theorem augStore_is {i : Expr} (h : plIx i = true) (ov iv new : Value) : augStore i ov iv new = (do holding [new, ov, iv] (setItem ov iv new); release [new, ov, iv] []; pure .next) := by
  cases i <;> first | rfl | (simp [plIx] at h)
theorem compSc_none {v : Expr} (h : (compSc v).isNone = true) {t : Option Expr} {l : Nat} {env : Env} : swapsWith v t l env = pure false := by
  cases v <;> first | rfl | (simp [compSc] at h)
/-- two or three names at once -/
theorem names_are {ts : List Expr} {sc : Scope} {ns : List Str} (h : swNames ts sc = ns) (hl : ns.length = ts.length) : ∀ t ∈ ts, ∃ x p, t = .Name x p ∧ sc.names.lookup x = some .local := by
  subst h
  unfold swNames at hl
  revert hl
  generalize (ts.head?.map (·.pos.line)).getD 0 = l
  intro hl
  have key : ∀ ts : List Expr, (ts.filterMap fun t => match t with
    | .Name id pos => if sc.names.lookup id == some .local && pos.line == l then some id else none
    | _ => none).length = ts.length → ∀ t ∈ ts, ∃ x p, t = .Name x p ∧ sc.names.lookup x = some .local := by
    intro ts
    induction ts with
    | nil => intro _ t ht; cases ht
    | cons a as ih =>
      intro hl t ht
      rw [List.filterMap_cons] at hl
      split at hl
      · have := List.length_filterMap_le (fun t => match t with
          | Expr.Name id pos => if sc.names.lookup id == some .local && pos.line == l then some id else none
          | _ => none) as
        rw [List.length_cons] at hl
        omega
      · rename_i y hy
        rcases List.mem_cons.mp ht with e | e
        · subst e
          cases t <;> simp only [reduceCtorEq] at hy
          split at hy
          · rename_i hh
            simp only [Bool.and_eq_true, beq_iff_eq] at hh
            exact ⟨_, _, rfl, hh.1⟩
          · cases hy
        · exact ih (by simpa using hl) t e
  exact key ts hl
theorem setMany_two {ρ ρ' : En} {i i' : Nat} {xs : List EV.D} (e : setMany ρ [i, i'] xs = some ρ') : ∃ x y, xs = [x, y] ∧ ρ' = (ρ.set i (some x)).set i' (some y) := by
  match xs with
  | [] => simp [setMany] at e
  | [x] =>
    simp only [setMany] at e
    split at e <;> cases e
  | [x, y] =>
    simp only [setMany] at e
    split at e
    · split at e
      · cases e; exact ⟨x, y, rfl, rfl⟩
      · cases e
    · cases e
  | x :: y :: z :: zs =>
    simp only [setMany] at e
    split at e
    · split at e <;> cases e
    · cases e
theorem setMany_three {ρ ρ' : En} {i i' i2 : Nat} {xs : List EV.D} (e : setMany ρ [i, i', i2] xs = some ρ') : ∃ x y z, xs = [x, y, z] ∧ ρ' = ((ρ.set i (some x)).set i' (some y)).set i2 (some z) := by
  match xs with
  | [] => simp [setMany] at e
  | [x] =>
    simp only [setMany] at e
    split at e <;> cases e
  | [x, y] =>
    simp only [setMany] at e
    split at e
    · split at e <;> cases e
    · cases e
  | [x, y, z] =>
    simp only [setMany] at e
    split at e
    · split at e
      · split at e
        · cases e; exact ⟨x, y, z, rfl, rfl⟩
        · cases e
      · cases e
    · cases e
  | x :: y :: z :: u :: zs =>
    simp only [setMany] at e
    split at e
    · split at e
      · split at e <;> cases e
      · cases e
    · cases e
theorem ss_par {X : Cx} {fl : List Str} {is : List Nat} {ts vs : List Expr} {a c : Nat} {d d' pos : Pos} {g : En → Sto → Option (List EV.D × Sto)} (hc : X.calm = true) (hN : X.N.Nodup) (hns : swP ts vs X.env.scope (namesAt X.N is) = true) (hnd : is.Nodup)
    (hin : is.all (fun i => (X.N[i]?).isSome) = true) (hl : (is.length == 2 || is.length == 3) = true) (ha : SA k fl bs X vs g) :
    SS k fl bs X (.Assign [.Tuple ts a d] (.Tuple vs c d') pos) (fun ρ S => (g ρ S).bind fun r => (setMany ρ is r.1).map fun ρ => .nx ρ r.2) := by
  obtain ⟨t, pa, l⟩ := ha
  have hsw := swP_eq (a := a) (c := c) (b := d) (d := d') hns
  unfold swP at hns
  simp only [Bool.and_eq_true, Bool.not_eq_true', decide_eq_true_eq, Bool.or_eq_false_iff, bne_eq_false_iff_eq] at hns
  obtain ⟨⟨⟨⟨⟨⟨⟨h1, hvl⟩, h1'⟩, h2⟩, h3⟩, h4⟩, h5⟩, h6⟩ := hns
  have hlen : (namesAt X.N is).length = ts.length := by rw [← h6]; exact h3.1
  have hnm := names_are h6 hlen
  have hil : is.length = ts.length := by rw [← hlen]; simp [namesAt]
  have hat : ∀ i ∈ is, ∃ x, X.N[i]? = some x := fun i hi => by
    have := List.all_eq_true.mp hin i hi
    exact Option.isSome_iff_exists.mp this
  have hvl : vs.length = ts.length := hvl
  match is, ts, hl, hil with
  | [i1, i2], [t1, t2], _, _ =>
    obtain ⟨x1, p1, rfl, l1⟩ := hnm t1 (by simp)
    obtain ⟨x2, p2, rfl, l2⟩ := hnm t2 (by simp)
    have hne : i1 ≠ i2 := by simp at hnd; exact hnd
    obtain ⟨y1, e1⟩ := hat i1 (by simp)
    obtain ⟨y2, e2⟩ := hat i2 (by simp)
    have hnames : [y1, y2] = [x1, x2] := by
      have h7 : swNames [Expr.Name x1 p1, .Name x2 p2] X.env.scope = [y1, y2] := by rw [h6]; simp [namesAt, e1, e2]
      rw [← h7]
      have h8 : (swNames [Expr.Name x1 p1, .Name x2 p2] X.env.scope).length = 2 := by rw [h7]; rfl
      unfold swNames at h8 ⊢
      simp only [List.filterMap_cons, List.filterMap_nil] at h8 ⊢
      repeat' split at h8
      all_goals first
        | (simp at h8; done)
        | skip
      all_goals simp_all
    cases hnames
    match vs, hvl with
    | [v1, v2], _ =>
      refine ⟨_, ps_par (i := i1) (j := i2) hc hN e1 e2 hne l1 l2 pa (by rw [hsw]; simp [namesAt, e1, e2]), fun G m ρ S σ H o D s re e w => ?_⟩
      simp only [Option.bind_eq_some_iff, Option.map_eq_some_iff] at e
      obtain ⟨⟨xs, S1⟩, e3, ρ', e4, rfl⟩ := e
      refine l G m ρ S σ H xs S1 _ s re e3 fun G1 m1 us H1 x1 s1 r1 => ?_
      obtain ⟨x, y, rfl, rfl⟩ := setMany_two e4
      obtain ⟨u, q, rfl, ru, q0⟩ := r1.inv1
      obtain ⟨u2, q, rfl, ru2, q0⟩ := q0.inv1
      rw [q0.inv0]
      exact ⟨u, u2, rfl, w G1 m1 _ H1 x1 s1 (((re.ext x1).set ru).set ru2)⟩
  | [i1, i2, i3], [t1, t2, t3], _, _ =>
    obtain ⟨x1, p1, rfl, l1⟩ := hnm t1 (by simp)
    obtain ⟨x2, p2, rfl, l2⟩ := hnm t2 (by simp)
    obtain ⟨x3, p3, rfl, l3⟩ := hnm t3 (by simp)
    have hne : (i1 ≠ i2 ∧ i1 ≠ i3) ∧ i2 ≠ i3 := by simp at hnd; exact hnd
    obtain ⟨y1, e1⟩ := hat i1 (by simp)
    obtain ⟨y2, e2⟩ := hat i2 (by simp)
    obtain ⟨y3, e3⟩ := hat i3 (by simp)
    have hnames : [y1, y2, y3] = [x1, x2, x3] := by
      have h7 : swNames [Expr.Name x1 p1, .Name x2 p2, .Name x3 p3] X.env.scope = [y1, y2, y3] := by rw [h6]; simp [namesAt, e1, e2, e3]
      rw [← h7]
      have h8 : (swNames [Expr.Name x1 p1, .Name x2 p2, .Name x3 p3] X.env.scope).length = 3 := by rw [h7]; rfl
      unfold swNames at h8 ⊢
      simp only [List.filterMap_cons, List.filterMap_nil] at h8 ⊢
      repeat' split at h8
      all_goals first
        | (simp at h8; done)
        | skip
      all_goals simp_all
    cases hnames
    match vs, hvl with
    | [v1, v2, v3], _ =>
      refine ⟨_, ps_par3 (i := i1) (j := i2) (l := i3) hc hN e1 e2 e3 hne.1.1 hne.1.2 hne.2 l1 l2 l3 pa (by rw [hsw]; simp [namesAt, e1, e2, e3]), fun G m ρ S σ H o D s re e w => ?_⟩
      simp only [Option.bind_eq_some_iff, Option.map_eq_some_iff] at e
      obtain ⟨⟨xs, S1⟩, e4, ρ', e5, rfl⟩ := e
      refine l G m ρ S σ H xs S1 _ s re e4 fun G1 m1 us H1 x1 s1 r1 => ?_
      obtain ⟨x, y, z, rfl, rfl⟩ := setMany_three e5
      obtain ⟨u, q, rfl, ru, q0⟩ := r1.inv1
      obtain ⟨u2, q, rfl, ru2, q0⟩ := q0.inv1
      obtain ⟨u3, q, rfl, ru3, q0⟩ := q0.inv1
      rw [q0.inv0]
      exact ⟨u, u2, u3, rfl, w G1 m1 _ H1 x1 s1 ((((re.ext x1).set ru).set ru2).set ru3)⟩
mutual
theorem sS (hb : ∀ b' ∈ bs, b' ≤ b) (p : Prm P w K mg base k nm pg n j) : ∀ (x : Sm) {X : Cx} {fn : Fs} {sc : Scope} {st : Stmt}, XOk P w K mg base N n X fn sc → chkS nm N x fn sc st = true → SS k nm.fl bs X st (fun ρ S => exc (clOf pg j) b x ρ S)
  | .set t e, X, fn, sc, st, xo, h => by
    simp only [chkS] at h
    split at h
    · rename_i tg v pos
      simp only [Bool.and_eq_true] at h
      obtain ⟨h0, h⟩ := h
      split at h
      · rename_i hsw
        have hs : ∀ l, swapsWith v (some tg) l X.env = pure true := fun l => by rw [swB_eq, xo.sc, hsw]
        split at h
        · rename_i i x own t' it ifs elt tg' iter is scope pos1 y pos2
          simp only [Bool.and_eq_true, beq_iff_eq] at h
          obtain ⟨h1, h2⟩ := h
          have hyl : X.env.scope.names.lookup y = some .local := by
            rw [xo.sc]
            unfold swB at hsw
            simp only [compSc, Bool.and_eq_true, beq_iff_eq] at hsw
            exact hsw.1.1.2
          simp only [chkE, Bool.and_eq_true] at h2
          obtain ⟨⟨⟨⟨⟨⟨h3, h4⟩, h5⟩, h6⟩, h7⟩, h8⟩, h9⟩ := h2
          refine (ss_setC (i := i) (own := ownOf N own) (sl := t'.slots) xo.calm xo.nd (by rw [xo.N]; exact h1) hyl (hs _) (sI hb p it xo h6) (by rw [xo.N, xo.sc]; exact blkOk_by h3) ?_ (fun Y hy => sT hb p t' (xo.blk hy) h7) (fun Y hy => sIf hb p ifs (xo.blk hy) h8)
            (fun Y hy => (sE hb p x (xo.blk hy) h9).1.d) (notSet_is h4 _)).cg fun ρ S => ?_
          · intro i hi
            rw [List.all_eq_true] at h5
            have := h5 i hi
            rw [ownOf_snd]
            simpa using this
          · rw [ownOf_snd]; simp only [exc, ev, asg]
        · rename_i i x own t' it ifs t2 it2 ifs2 elt tg' iter is tg2 iter2 is2 scope pos1 y pos2
          simp only [Bool.and_eq_true, beq_iff_eq] at h
          obtain ⟨hN1, h⟩ := h
          have hyl : X.env.scope.names.lookup y = some .local := by
            rw [xo.sc]
            unfold swB at hsw
            simp only [compSc, Bool.and_eq_true, beq_iff_eq] at hsw
            exact hsw.1.1.2
          simp only [chkE, Bool.and_eq_true] at h
          obtain ⟨⟨⟨⟨⟨⟨⟨⟨⟨⟨⟨h1, h2⟩, h2'⟩, h3⟩, h3'⟩, h4⟩, h5⟩, h6⟩, h8⟩, h9⟩, h10⟩, h7⟩ := h
          obtain ⟨tt, l, _, pn⟩ := se_comp2 (pos := pos1) (own := ownOf N own) (sl := t'.slots) (sl1 := t2.slots) xo.calm xo.nd (sI hb p it xo h4) (by rw [xo.N, xo.sc]; exact blkOk_by h1) (own_in h3) (own_in h3') (fun Y hy => sT hb p t' (xo.blk hy) h5) (fun Y hy => sIf hb p ifs (xo.blk hy) h6)
            (fun Y hy => sI hb p it2 (xo.blk hy) h8) (fun Y hy => sT hb p t2 (xo.blk hy) h9) (fun Y hy => sIf hb p ifs2 (xo.blk hy) h10) (fun Y hy => (sE hb p x (xo.blk hy) h7).1.d) (notSet_is h2 _) (fun env => notSet_is h2' env)
          refine (ss_setT (pn i y pos2 pos (by rw [xo.N]; exact hN1) hyl (hs _)) l).cg fun ρ S => ?_
          rw [ownOf_snd]; simp only [exc, ev, asg]
        · rename_i i x own t' it ifs elt tg' iter is scope pos1 y pos2
          simp only [Bool.and_eq_true, beq_iff_eq] at h
          obtain ⟨h1, h2⟩ := h
          have hyl : X.env.scope.names.lookup y = some .local := by
            rw [xo.sc]
            unfold swB at hsw
            simp only [compSc, Bool.and_eq_true, beq_iff_eq] at hsw
            exact hsw.1.1.2
          simp only [chkE, Bool.and_eq_true] at h2
          obtain ⟨⟨⟨⟨⟨⟨h3, h4⟩, h5⟩, h6⟩, h7⟩, h8⟩, h9⟩ := h2
          refine (ss_setCn (i := i) (own := ownOf N own) (sl := t'.slots) xo.calm xo.nd (by rw [xo.N]; exact h1) hyl (hs _) (sI hb p it xo h6) (by rw [xo.N, xo.sc]; exact blkOk_by h3) ?_ (fun Y hy => sT hb p t' (xo.blk hy) h7) (fun Y hy => sIf hb p ifs (xo.blk hy) h8)
            (fun Y hy => (sE hb p x (xo.blk hy) h9).1.d) (notSet_is h4 _)).cg fun ρ S => ?_
          · intro i hi
            rw [List.all_eq_true] at h5
            have := h5 i hi
            rw [ownOf_snd]
            simpa using this
          · rw [ownOf_snd]; simp only [exc, ev, asg]
        · cases h
      · rename_i hsw
        simp only [Bool.and_eq_true] at h
        obtain ⟨⟨h1, h2⟩, h3⟩ := h
        have hs : ∀ l, swapsWith v (some tg) l X.env = pure false := fun l => by rw [swB_eq, xo.sc, hsw]
        have he := (sE hb p e xo h2).1.d
        split at h3
        · split at h3
          · simp only [Bool.and_eq_true, beq_iff_eq] at h3
            exact (ss_fld (xo.hk p) p.cls h3.1 hb (sE hb p _ xo h3.2).1.d he (hs _)).cg fun ρ S => by simp only [exc, asg]
          · cases h3
        · exact (ss_asg he (sT hb p t xo h3) (hs _) (swN_eq (by rw [xo.sc]; exact h1)) h0).cg fun ρ S => by simp only [exc]
    · cases h
  | .par is es, X, fn, sc, st, xo, h => by
    simp only [chkS] at h
    split at h
    · simp only [Bool.and_eq_true, decide_eq_true_eq] at h
      obtain ⟨⟨⟨⟨⟨h1, h2⟩, h3⟩, h4⟩, h5⟩, h6⟩ := h
      exact (ss_par xo.calm xo.nd (by rw [xo.N, xo.sc]; exact h1) h2 (by rw [xo.N]; exact h3) h4 (sEs hb p es xo h6)).cg fun ρ S => by simp only [exc]
    · cases h
  | .aug i o e, X, fn, sc, st, xo, h => by
    simp only [chkS] at h
    split at h
    · simp only [Bool.and_eq_true, decide_eq_true_eq, beq_iff_eq] at h
      obtain ⟨⟨⟨h1, h2⟩, h3⟩, h4⟩ := h
      subst h1
      obtain ⟨h5, h6⟩ := xo.loc h3
      exact (ss_aug xo.nd (by rw [xo.N]; exact h2) h5 h6 (sE hb p e xo h4).1.d).cg fun ρ S => by simp only [exc]
    · cases h
  | .augIx a c o e, X, fn, sc, st, xo, h => by
    simp only [chkS] at h
    split at h
    · simp only [Bool.and_eq_true, decide_eq_true_eq] at h
      obtain ⟨⟨⟨⟨h1, h2⟩, h3⟩, h4⟩, h5⟩ := h
      subst h1
      exact (ss_augIx (xo.hk p) xo.ru hb (sE hb p a xo h3).1.d (sE hb p c xo h4).1.d (sE hb p e xo h5).1.d (augStore_is h2)).cg fun ρ S => by simp only [exc]
    · cases h
  | .augF a i o e, X, fn, sc, st, xo, h => by
    simp only [chkS] at h
    split at h
    · simp only [Bool.and_eq_true, decide_eq_true_eq, beq_iff_eq] at h
      obtain ⟨⟨⟨h1, h2⟩, h3⟩, h4⟩ := h
      subst h1
      exact (ss_augF (xo.hk p) p.cls h2 hb (sE hb p a xo h3).1.d (sE hb p e xo h4).1.d).cg fun ρ S => by simp only [exc]
    · cases h
  | .ex e, X, fn, sc, st, xo, h => by
    simp only [chkS] at h
    split at h
    · simp only [Bool.and_eq_true] at h
      exact (ss_ex (compSc_none h.1) (sE hb p e xo h.2).1).cg fun ρ S => by simp only [exc]
    · cases h
  | .ret e, X, fn, sc, st, xo, h => by
    simp only [chkS] at h
    split at h
    · exact (ss_ret (sE hb p e xo h).1.d).cg fun ρ S => by simp only [exc]
    · split at h
      · exact ss_retN.cg fun ρ S => by simp [exc, ev, dOf, Vl.frz]
      · cases h
    · cases h
  | .iff c a d, X, fn, sc, st, xo, h => by
    simp only [chkS] at h
    split at h
    · simp only [Bool.and_eq_true] at h
      obtain ⟨⟨h1, h2⟩, h3⟩ := h
      exact (ss_if (sE hb p c xo h1).2.1 (sSs hb p a xo h2) (sSs hb p d xo h3)).cg fun ρ S => by simp only [exc]
    · cases h
  | .for t it a, X, fn, sc, st, xo, h => by
    simp only [chkS] at h
    split at h
    · simp only [Bool.and_eq_true] at h
      obtain ⟨⟨⟨h1, h2⟩, h3⟩, h4⟩ := h
      exact (ss_for xo.xe xo.calm (sI hb p it xo h2) (sT hb p t xo h3) (sSs hb p a xo h4) (notSet_is h1 _)).cg fun ρ S => by simp only [exc]
    · cases h
  | .whl c a, X, fn, sc, st, xo, h => by
    simp only [chkS] at h
    split at h
    · simp only [Bool.and_eq_true] at h
      exact (ss_whl (N := fuelW) xo.xe (sE hb p c xo h.1).2.1 (sSs hb p a xo h.2)).cg fun ρ S => by simp only [exc]
    · cases h
  | .brk, X, fn, sc, st, xo, h => by
    simp only [chkS] at h
    split at h
    · exact ss_brk.cg fun ρ S => by simp only [exc]
    · cases h
  | .cnt, X, fn, sc, st, xo, h => by
    simp only [chkS] at h
    split at h
    · exact ss_cnt.cg fun ρ S => by simp only [exc]
    · cases h
  | .pass, X, fn, sc, st, xo, h => by
    simp only [chkS] at h
    split at h
    · exact ss_pass.cg fun ρ S => by simp only [exc]
    · cases h
theorem sSs (hb : ∀ b' ∈ bs, b' ≤ b) (p : Prm P w K mg base k nm pg n j) : ∀ (x : Sms) {X : Cx} {fn : Fs} {sc : Scope} {st : List Stmt}, XOk P w K mg base N n X fn sc → chkSs nm N x fn sc st = true → SSs k nm.fl bs X st (fun ρ S => excs (clOf pg j) b x ρ S)
  | .nil, X, fn, sc, st, xo, h => by
    simp only [chkSs, List.isEmpty_iff] at h
    subst h
    exact ss_nil.cg fun ρ S => by simp only [excs]
  | .cons s ss, X, fn, sc, st, xo, h => by
    simp only [chkSs] at h
    split at h
    · simp only [Bool.and_eq_true] at h
      exact (ss_cons (sS hb p s xo h.1) (sSs hb p ss xo h.2)).cg fun ρ S => by simp only [excs] <;> rfl
    · cases h
end
end
end EV
end
section
set_option maxRecDepth 100000
set_option autoImplicit false
/-! EV: the defs keep their promises. -/
namespace EV
open PySem L2

section
variable {k : Kx} {fl : List Str} {bs : List Nat} {G G' : Hp} {m m' : List Addr} {S S' : Sto} {H H' : Hp}
mutual
theorem RV.under : ∀ {d : EV.D} {v : V}, RV k G m d v → d.under m.length = true
  | .non, _, h | .bl _, _, h | .int _, _, h | .str _, _, h | .ty _, _, h | .cl _, _, h => by simp [EV.D.under]
  | .tup xs, v, h => by
    simp only [RV] at h; obtain ⟨a, vs, _, _, r⟩ := h
    simp only [EV.D.under]; exact RVs.under r
  | .ctup xs, v, h => by
    simp only [RV] at h; obtain ⟨a, vs, _, _, r⟩ := h
    simp only [EV.D.under]; exact RVs.under r
  | .lst xs, v, h => by
    simp only [RV] at h; obtain ⟨a, vs, _, _, r⟩ := h
    simp only [EV.D.under]; exact RVs.under r
  | .slst xs, v, h => by
    simp only [RV] at h; obtain ⟨a, vs, _, _, r⟩ := h
    simp only [EV.D.under]; exact RVs.under r
  | .loc n, v, h => by
    simp only [RV] at h; obtain ⟨a, _, h⟩ := h
    simp only [EV.D.under, decide_eq_true_eq]
    exact (List.getElem?_eq_some_iff.mp h).1
theorem RVs.under : ∀ {d : List EV.D} {v : List V}, RVs k G m d v → EV.D.unders m.length d = true
  | [], v, h => by simp [EV.D.unders]
  | x :: xs, v, h => by
    obtain ⟨y, r, _, g, q⟩ := h.inv1
    simp only [EV.D.unders, Bool.and_eq_true]
    exact ⟨RV.under g, RVs.under q⟩
end
theorem RKs.under {κ : Type} : ∀ {d : List (κ × EV.D)} {v : List (κ × V)}, RKs k G m d v → (d.all fun kv => kv.2.under m.length) = true
  | [], v, h => rfl
  | (q, x) :: xs, v, h => by
    obtain ⟨y, r, _, g, z⟩ := h
    simp only [List.all_cons, Bool.and_eq_true]
    exact ⟨RV.under g, RKs.under z⟩
theorem RC.under {a : Addr} : ∀ {c : Cell}, RC k fl G m H a c → c.under m.length = true
  | .lst xs, h => by obtain ⟨vs, _, r⟩ := h; exact RVs.under r
  | .dK xs, h => by obtain ⟨vs, _, r⟩ := h; exact RKs.under r
  | .dT xs, h => by obtain ⟨vs, _, r⟩ := h; exact RKs.under r
  | .ins C fs, h => by
    obtain ⟨ca, dx, ws, _, _, _, _, ln, r⟩ := h
    show fs.all _ = true
    rw [List.all_eq_true]
    intro o ho
    cases o with
    | none => rfl
    | some d =>
      obtain ⟨i, hi, e⟩ := List.getElem_of_mem ho
      have hx : fl[i]? = some fl[i] := List.getElem?_eq_getElem (by omega)
      have := r i _ hx
      have hf : getF fs i = some d := by
        unfold getF
        rw [List.getElem?_eq_getElem hi, e]; rfl
      rw [hf] at this
      obtain ⟨v, _, rv⟩ := this
      exact RV.under rv
/-- a new frame: its places begin where the store ends -/
theorem Sim.frame (s : Sim k fl bs G m S H) : Sim k fl (S.length :: bs) G m S H := by
  refine ⟨s.sub, s.len, s.nd, s.out, s.cel, fun b hb => ?_⟩
  rcases List.mem_cons.mp hb with e | e
  · subst e
    refine ⟨Nat.le_refl _, fun n c hn hc => ?_⟩
    obtain ⟨a, h1, h2, _, _⟩ := s.ne hc
    rw [← s.len]
    exact RC.under h2
  · exact s.lo b e
/-- .. is left: what it made is nobody's -/
theorem Sim.cut {B : Nat} (hB : m.length = B) (hbs : ∀ b ∈ bs, b ≤ B) (x : Ext G m H G' m' H') (s : Sim k fl (B :: bs) G' m' S' H') : m'.take B = m ∧ Sim k fl bs G' m (S'.take B) H' ∧ Ext G m H G' m H' := by
  have hm : m'.take B = m := by
    obtain ⟨r, e⟩ := x.pm
    rw [e, ← hB]; simp
  have hlen : B ≤ S'.length := (s.lo B List.mem_cons_self).1
  refine ⟨hm, ⟨s.sub, ?_, ?_, fun a ha => s.out a ?_, fun n c a h1 h2 => ?_, fun b hb => ⟨?_, fun n c hn h1 => ?_⟩⟩, x.sg, ⟨[], by simp⟩, fun a o h1 h2 h3 => ?_, x.dom⟩
  · rw [List.length_take, Nat.min_eq_left hlen, hB]
  · rw [← hm]; exact s.nd.sublist (List.take_sublist _ _)
  · rw [← hm] at ha; exact List.mem_of_mem_take ha
  · rw [List.getElem?_take] at h1
    split at h1
    · rename_i hn
      have h3 : m'[n]? = some a := x.at h2
      have := RC.low ((s.lo B List.mem_cons_self).2 n c hn h1) (s.cel n c a h1 h3)
      rw [hm] at this
      exact this
    · cases h1
  · rw [List.length_take, Nat.min_eq_left hlen]; exact hbs b hb
  · rw [List.getElem?_take] at h1
    split at h1
    · exact (s.lo b (List.mem_cons_of_mem _ hb)).2 n c hn h1
    · cases h1
  · obtain ⟨q1, q2, q3⟩ := x.fr a o h1 h2 h3
    exact ⟨q1, q2, h2⟩
theorem fin_ok {B : Nat} {drop : Bool} {d0 d : EV.D} {v : V} {S2 S3 : Sto} (hB : m.length = B) (hbs : ∀ b ∈ bs, b ≤ B) (x : Ext G m H G' m' H') (s : Sim k fl (if drop = true then B :: bs else bs) G' m' S2 H') (rv : RV k G' m' d0 v) (e : fin drop B d0 S2 = some (d, S3)) :
    ∃ G2 m2, Ext G m H G2 m2 H' ∧ Sim k fl bs G2 m2 S3 H' ∧ RV k G2 m2 d v := by
  cases drop with
  | false =>
    simp only [fin, Bool.false_eq_true, if_false, Option.some.injEq, Prod.mk.injEq] at e s
    obtain ⟨rfl, rfl⟩ := e
    exact ⟨G', m', x, s, rv⟩
  | true =>
    simp only [fin, if_true, Option.map_eq_some_iff, Prod.mk.injEq] at e s
    obtain ⟨d', e, rfl, rfl⟩ := e
    obtain ⟨hm, s1, x1⟩ := Sim.cut hB hbs x s
    have low : ∀ {d : EV.D}, d.under B = true → RV k G' m' d v → RV k G' m d v := fun hu r => by
      have := RV.low hu r
      rw [hm] at this
      exact this
    split at e
    · rename_i n
      split at e
      · rename_i hn
        cases e
        exact ⟨G', m, x1, s1, low (by simpa [EV.D.under] using hn) rv⟩
      · rename_i hn
        split at e
        · rename_i xs hc
          split at e
          · rename_i hu
            cases e
            have rv' := rv
            simp only [RV] at rv'
            obtain ⟨a, rfl, ha⟩ := rv'
            obtain ⟨vs, h1, h2⟩ := s.cel n _ a hc ha
            have ham : a ∉ m := fun hmem => by
              rw [← hm] at hmem
              obtain ⟨i, hi, e1⟩ := List.getElem_of_mem hmem
              have hi' : i < B := by rw [List.length_take] at hi; omega
              have e2 : m'[i]? = some a := by
                have h3 : (m'.take B)[i]? = some a := by rw [List.getElem?_eq_getElem hi, e1]
                rw [List.getElem?_take, if_pos hi'] at h3; exact h3
              obtain ⟨p1, q1⟩ := List.getElem?_eq_some_iff.mp ha
              obtain ⟨p2, q2⟩ := List.getElem?_eq_some_iff.mp e2
              have := (List.getElem_inj s.nd).mp (q1.trans q2.symm)
              omega
            have hg : G' a = none := s.out a (List.mem_of_getElem? ha)
            have hg0 : G a = none := by
              cases h : G a with
              | none => rfl
              | some o => rw [x.sg a o h] at hg; cases hg
            have h0 : H a = none := by
              cases h : H a with
              | none => rfl
              | some o => exact absurd (List.mem_of_getElem? ha) (x.fr a o hg0 ham h).2.2
            obtain ⟨s2, y1, y2⟩ := s1.freeze ham h1 hg
            refine ⟨_, m, y2 h0 x1, s2, ?_⟩
            simp only [RV]
            refine ⟨a, vs, rfl, upd_same, ?_⟩
            have := RVs.low hu h2
            rw [hm] at this
            exact this.gen y1 fun _ _ h => h
          · cases e
        · cases e
    · split at e
      · rename_i hu
        cases e
        exact ⟨G', m, x1, s1, low hu rv⟩
      · cases e
end

/-- a def and its literal -/
structure DfOk (nm : Nm) (df : Df) (d : He.DefD) (N : List Str) : Prop where
  sc : C8.scC N (N.take df.np) d.scope = true
  chk : chkSs nm N df.body (fun _ => true) d.scope d.body = true
  len : N.length = df.n
  np : df.np ≤ df.n
section
variable {P : Program} {w : World} {K : PySem.W.Frag} {mg : Str → Option Value} {base : Heap} {k : Kx} {nm : Nm} {pg : Pg}
theorem spR_len {j i : Nat} {df : Df} (hd : pg.defs[i]? = some df) : ∀ vs H Q E, spR k nm.fl pg j i vs H Q E → vs.length = df.np := by
  rintro vs H Q E ⟨bs, b, G, m, ds, S, d, S', _, _, r, e, _⟩
  cases j with
  | zero => simp [run] at e
  | succ j =>
    simp only [run, hd] at e
    split at e
    · rename_i h; rw [← r.length]; exact h
    · cases e
theorem start_re {G : Hp} {m : List Addr} {ds : List EV.D} {vs : List V} {N : List Str} {np n : Nat} (r : RVs k G m ds vs) (hn : N.length = n) (hl : ds.length = np) : RE k G m (ds.map some ++ List.replicate (n - np) none) (L2.start N vs) := by
  have hl2 := r.length
  unfold L2.start
  refine ⟨by simp; omega, fun i d hd => ?_⟩
  by_cases hi : i < ds.length
  · rw [List.getElem?_append_left (by simpa using hi), List.getElem?_map] at hd
    rw [List.getElem?_append_left (by simp; omega), List.getElem?_map]
    cases h : ds[i]? with
    | none => rw [h] at hd; cases hd
    | some y =>
      rw [h] at hd
      cases hd
      obtain ⟨z, h1, h2⟩ := r.get h
      exact ⟨z, by rw [h1]; rfl, h2⟩
  · rw [List.getElem?_append_right (by simpa using hi), List.getElem?_replicate] at hd
    split at hd <;> cases hd
/-- one def, the ones it calls given -/
theorem def_ok {j i : Nat} {df : Df} {d0 : He.DefD} {N : List Str} {dvs : List V} {kws : List (Str × V)} {f : Addr} {fd : FuncData} (hd : pg.defs[i]? = some df) (ok : DfOk nm df d0 N) (p : Prm P w K mg base k nm pg (2 * j) j)
    (F : FunD K d0.name d0.qual d0.params d0.body d0.scope dvs kws f fd) :
    FnOk P w K mg base C8.CX0 (2 * (j + 1)) f fd (N.take df.np) (spR k nm.fl pg (j + 1) i) := by
  refine FunD.ok (k := 2 * j + 1) F (C8.fnScope_by ok.sc) (fun vs H Q E h => ?_) fun cdv A outer s H vs Q E hr hsp => ?_
  · rw [spR_len hd vs H Q E h, List.length_take, ok.len, Nat.min_eq_left ok.np]
  obtain ⟨bs, b, G, m, ds, S, d, S', hb, si, rv, e, cont⟩ := hsp
  simp only [run, hd] at e
  split at e
  · rename_i hl
    simp only [Option.bind_eq_some_iff] at e
    obtain ⟨o, e1, e2⟩ := e
    have xo : XOk P w K mg base N (2 * j) (cxOf C8.CX0 P w K mg base N d0.qual d0.scope f cdv A outer s H E).nox (fun _ => true) d0.scope :=
      ⟨rfl, rfl, rfl, rfl, rfl, rfl, (C8.fnScope_by ok.sc).nd, rfl, rfl, rfl, rfl, hr⟩
    have hbs : ∀ b' ∈ bs, b' ≤ S.length := fun b' h => (si.lo b' h).1
    have hb0 : ∀ b' ∈ (if df.drop = true then S.length :: bs else bs), b' ≤ (if df.drop = true then S.length else b) := by
      cases df.drop with
      | false => simpa using hb
      | true =>
        intro b' h
        rcases List.mem_cons.mp h with h | h
        · subst h; exact Nat.le_refl _
        · exact hbs b' h
    obtain ⟨t, pt, lt⟩ := sSs hb0 p df.body xo ok.chk
    refine ⟨t, pt.nox, ?_⟩
    have s0 : Sim k nm.fl (if df.drop = true then S.length :: bs else bs) G m S H := by
      cases df.drop with
      | false => exact si
      | true => exact si.frame
    refine lt G m _ S _ H o _ s0 (start_re rv ok.len hl) e1 ?_
    cases o with
    | nx ρ S2 =>
      intro G' m' σ' H' x' s' re'
      obtain ⟨G2, m2, x2, s2, r2⟩ := fin_ok (v := .non) si.len hbs x' s' (by simp only [RV]) e2
      exact cont G2 m2 .non H' x2 s2 r2
    | rt d0 S2 =>
      intro G' m' v H' x' s' r'
      obtain ⟨G2, m2, x2, s2, r2⟩ := fin_ok si.len hbs x' s' r' e2
      exact cont G2 m2 v H' x2 s2 r2
    | bk ρ S2 => cases e2
    | ct ρ S2 => cases e2
  · cases e
theorem def_zero {i : Nat} {df : Df} {N : List Str} {f : Addr} {fd : FuncData} : FnOk P w K mg base C8.CX0 (2 * 0) f fd N (spR k nm.fl pg 0 i) :=
  ⟨fun vs H Q E ⟨bs, b, G, m, ds, S, d, S', _, _, r, e, _⟩ => by simp [run] at e, fun A outer s H args us vs Q E hr he hb hv ⟨bs, b, G, m, ds, S, d, S', _, _, r, e, _⟩ => by simp [run] at e⟩
end
end EV
end
section
set_option maxRecDepth 100000
set_option autoImplicit false
/-! EV: a law by its literals. -/
namespace EV
open PySem L2
def faSame : He.Fa → He.Fa → Bool
  | .glo x, .glo y | .free x, .free y | .cls x, .cls y | .mkr x, .mkr y | .exc x, .exc y | .keep x, .keep y => decide (x = y)
  | .exm x u i, .exm y v j => decide (x = y) && decide (u = v) && decide (i = j)
  | .code x i, .code y j => decide (x = y) && decide (i = j)
  | .int x i, .int y j => decide (x = y) && decide (i = j)
  | .str x i, .str y j => decide (x = y) && decide (i = j)
  | .noat x i, .noat y j => decide (x = y) && decide (i = j)
  | .meth x i, .meth y j => decide (x = y) && decide (i = j)
  | _, _ => false
theorem faSame_iff (a b : He.Fa) : faSame a b = true ↔ a = b := by
  cases a <;> cases b <;> simp [faSame, and_assoc]
instance : DecidableEq He.Fa := fun a b => decidable_of_iff _ (faSame_iff a b)

/-- a law's program as literals: names, defs, the names in each def's slots, where each def stands, constants, methods, __init__s -/
structure Lit where
  nm : Nm
  defs : List Df
  Ns : List (List Str)
  ds : List He.DefD
  cons : List D
  mth : List (List (Option Nat))
  ini : List Nat
def Lit.pg (l : Lit) : Pg := ⟨l.defs, fun i => l.cons[i]?, fun C m => ((l.mth[C]?).bind fun r => r[m]?).join, fun C => l.ini[C]?⟩
def Lit.kx (l : Lit) (K : PySem.W.Frag) : Kx := ⟨K, fun C => (l.nm.cl[C]?).map (He.ga K)⟩
/-- what has to be asked of the top -/
def Lit.facts (l : Lit) : List He.Fa :=
  bltNames.map .free ++ l.nm.fn.filterMap (fun x => x.map .glo) ++ l.nm.cl.flatMap (fun x => [.glo x, .cls x, .mkr x] ++ l.nm.fl.map (.noat x)) ++
  (l.nm.cn.zip l.cons).filterMap (fun (x, d) => match d with | .int i => some (.int x i) | .str z => some (.str x z) | _ => none) ++
  ((l.nm.cl.zip l.mth).flatMap fun (x, r) => (l.nm.mt.zip r).filterMap fun (m, o) => o.map fun _ => .meth x m)
def defC (nm : Nm) (df : Df) (d : He.DefD) (N : List Str) : Bool :=
  C8.scC N (N.take df.np) d.scope && chkSs nm N df.body (fun _ => true) d.scope d.body && decide (N.length = df.n) && decide (df.np ≤ df.n) && d.dfl.isEmpty && d.kwd.isEmpty
def defsC (nm : Nm) : List Df → List He.DefD → List (List Str) → Bool
  | [], [], [] => true
  | df :: dfs, d :: ds, N :: Ns => defC nm df d N && defsC nm dfs ds Ns
  | _, _, _ => false
theorem defsC_at {nm : Nm} : ∀ {dfs : List Df} {ds : List He.DefD} {Ns : List (List Str)}, defsC nm dfs ds Ns = true → ∀ {i : Nat} {df : Df}, dfs[i]? = some df → ∃ d N, ds[i]? = some d ∧ Ns[i]? = some N ∧ defC nm df d N = true
  | [], [], [], _, i, df, h => by simp at h
  | df :: dfs, d :: ds, N :: Ns, hc, i, df', h => by
    simp only [defsC, Bool.and_eq_true] at hc
    cases i with
    | zero => simp at h; subst h; exact ⟨d, N, rfl, rfl, hc.1⟩
    | succ i =>
      obtain ⟨d', N', h1, h2, h3⟩ := defsC_at hc.2 (i := i) (by simpa using h)
      exact ⟨d', N', by simpa using h1, by simpa using h2, h3⟩
  | [], _ :: _, _, hc, i, df, h => by cases hc
  | [], [], _ :: _, hc, i, df, h => by cases hc
  | _ :: _, [], _, hc, i, df, h => by cases hc
  | _ :: _, _ :: _, [], hc, i, df, h => by cases hc
/-- names and places agree -/
def Lit.glue (l : Lit) : Bool :=
  decide (l.nm.fl.length < 1000) && decide (l.nm.fl.Nodup) && l.nm.mt.all (fun m => decide (m ∉ l.nm.fl)) &&
  ((List.range l.nm.fn.length).all fun i => match l.nm.fn[i]? with
    | some (some x) => (match l.ds[i]? with | some d => decide (d.at_ = (x, none)) && decide (i < l.defs.length) | none => false)
    | _ => true) &&
  ((List.range l.nm.cn.length).all fun i => match l.cons[i]? with | some (.int _) => true | some (.str _) => true | none => true | _ => false) &&
  ((List.range l.nm.cl.length).all fun C => match l.nm.cl[C]?, l.ini[C]? with
    | some x, some i => (match l.ds[i]? with | some d => decide (d.at_ = (x, some ("__init__" : Str))) && decide (i < l.defs.length) | none => false)
    | _, _ => false) &&
  ((List.range l.mth.length).all fun C => match l.nm.cl[C]?, l.mth[C]? with
    | some x, some r => decide (r.length ≤ l.nm.mt.length) && ((List.range r.length).all fun m => match r[m]?, l.nm.mt[m]? with
      | some (some i), some name => (match l.ds[i]? with | some d => decide (d.at_ = (x, some name)) && decide (i < l.defs.length) | none => false)
      | _, _ => true)
    | _, _ => false)
/-- how a def binds -/
def BindOk (d : He.DefD) (ps : List Str) : Prop := ∀ (kV doc pm : Value) (an : Option Addr) (cdv ct : Value) (us : List Value), us.length = ps.length → bindArgs (PySem.W.fnOf d.name d.qual d.params d.body d.scope .none kV doc pm an cdv ct) ⟨us, []⟩ = pure (ps.zip us)
structure Lit.Ok (l : Lit) : Prop where
  defs : defsC l.nm l.defs l.ds l.Ns = true
  glue : l.glue = true
  binds : ∀ (i : Nat) (df : Df) (d : He.DefD) (N : List Str), l.defs[i]? = some df → l.ds[i]? = some d → l.Ns[i]? = some N → BindOk d (N.take df.np)
section
variable {l : Lit} {P : Program} {w : World} {K : PySem.W.Frag} {mg : Str → Option Value} {base h : Heap}
theorem fact_of (c : He.SaysD l.facts l.ds K) {f : He.Fa} (hf : f ∈ l.facts) : f.ok K = true := by
  obtain ⟨i, hi, e⟩ := List.getElem_of_mem hf
  exact c.fact i (by rw [List.getElem?_eq_getElem hi, e])
theorem all_range {n i : Nat} {p : Nat → Bool} (h : (List.range n).all p = true) (hi : i < n) : p i = true := List.all_eq_true.mp h i (List.mem_range.mpr hi)
theorem lit_prm (ok : l.Ok) (X : K.In h) (G : h.Ns mainGlobals mg) (c : He.SaysD l.facts l.ds K) : ∀ j, Prm P w K mg base (l.kx K) l.nm l.pg (2 * j) j ∧
    ∀ (i : Nat) (df : Df) (d : He.DefD) (N : List Str) (fd : FuncData), l.defs[i]? = some df → l.ds[i]? = some d → l.Ns[i]? = some N → FunD K d.name d.qual d.params d.body d.scope (d.dvs K) (d.kws K) (He.fAd K d.at_) fd →
      FnOk P w K mg base C8.CX0 (2 * j) (He.fAd K d.at_) fd (N.take df.np) (spR (l.kx K) l.nm.fl l.pg j i) := by
  have hg := ok.glue
  unfold Lit.glue at hg
  simp only [Bool.and_eq_true, decide_eq_true_eq] at hg
  obtain ⟨⟨⟨⟨⟨⟨g1, g2⟩, g3⟩, g4⟩, g5⟩, g6⟩, g7⟩ := hg
  -- the promises of the defs give the rest
  have key : ∀ j, (∀ (i : Nat) (df : Df) (d : He.DefD) (N : List Str) (fd : FuncData), l.defs[i]? = some df → l.ds[i]? = some d → l.Ns[i]? = some N → FunD K d.name d.qual d.params d.body d.scope (d.dvs K) (d.kws K) (He.fAd K d.at_) fd →
      FnOk P w K mg base C8.CX0 (2 * j) (He.fAd K d.at_) fd (N.take df.np) (spR (l.kx K) l.nm.fl l.pg j i)) → Prm P w K mg base (l.kx K) l.nm l.pg (2 * j) j := fun j hj => by
    have one : ∀ (i : Nat) (d : He.DefD), i < l.defs.length → l.ds[i]? = some d → ∃ (df : Df) (N : List Str) (fd : FuncData), PySem.W.keepIn K (.ref (He.fAd K d.at_)) = true ∧ FnOk P w K mg base C8.CX0 (2 * j) (He.fAd K d.at_) fd (N.take df.np) (spR (l.kx K) l.nm.fl l.pg j i) ∧ Binds K fd (N.take df.np) [] := fun i d hi hd => by
      obtain ⟨fd, F⟩ := c.def_ i hd
      have hdf : l.defs[i]? = some l.defs[i] := List.getElem?_eq_getElem hi
      obtain ⟨d', N, h1, h2, h3⟩ := defsC_at ok.defs hdf
      rw [hd] at h1; cases h1
      have h4 : d.dfl = [] := by
        unfold defC at h3
        simp only [Bool.and_eq_true, List.isEmpty_iff] at h3
        exact h3.1.2
      have F' := F
      have hdv : d.dvs K = [] := by unfold He.DefD.dvs; rw [h4]; rfl
      rw [hdv] at F'
      exact ⟨_, N, fd, F.kp, hj i _ d N fd hdf hd h2 F, FunD.bindsN F' (ok.binds i _ d N hdf hd h2)⟩
    refine ⟨rfl, ⟨fun C a hC => ?_, fun C a x hC hx => ?_, g1, g2⟩, fun x hx => ?_, fun i x d hx hd => ?_, fun i x hx => ?_, fun C x hC => ?_, fun mi name hm => ⟨?_, fun C f hf => ?_⟩⟩
    · simp only [Lit.kx, Option.map_eq_some_iff] at hC
      obtain ⟨x, hx, rfl⟩ := hC
      exact He.cls_ok (fact_of c (by simp only [Lit.facts, List.mem_append, List.mem_flatMap]; exact .inl (.inl (.inr ⟨x, List.mem_of_getElem? hx, by simp⟩))))
    · simp only [Lit.kx, Option.map_eq_some_iff] at hC
      obtain ⟨y, hy, rfl⟩ := hC
      exact He.noat_ok (fact_of c (by simp only [Lit.facts, List.mem_append, List.mem_flatMap]; exact .inl (.inl (.inr ⟨y, List.mem_of_getElem? hy, by simp [hx]⟩))))
    · exact He.free_ok X G (fact_of c (by simp only [Lit.facts, List.mem_append]; exact .inl (.inl (.inl (.inl (List.mem_map.mpr ⟨x, hx, rfl⟩))))))
    · replace hd : l.cons[i]? = some d := hd
      have hz : (x, d) ∈ l.nm.cn.zip l.cons := by
        refine List.mem_of_getElem? (i := i) ?_
        rw [List.getElem?_zip_eq_some]
        exact ⟨hx, hd⟩
      have hk := all_range g5 (List.getElem?_eq_some_iff.mp hx).1
      rw [hd] at hk
      cases d <;> simp only [Bool.false_eq_true] at hk
      · rename_i z
        obtain ⟨t, ht⟩ := He.int_ok X G (fact_of c (f := .int x z) (by simp only [Lit.facts, List.mem_append, List.mem_filterMap]; exact .inl (.inr ⟨_, hz, rfl⟩)))
        exact ⟨_, .int z, ht, ⟨t, rfl⟩, fun _ _ => by simp only [RV]⟩
      · rename_i z
        obtain ⟨t, ht⟩ := He.str_ok X G (fact_of c (f := .str x z) (by simp only [Lit.facts, List.mem_append, List.mem_filterMap]; exact .inl (.inr ⟨_, hz, rfl⟩)))
        exact ⟨_, .str z, ht, ⟨t, rfl⟩, fun _ _ => by simp only [RV]⟩
    · have hk := all_range g4 (List.getElem?_eq_some_iff.mp hx).1
      rw [hx] at hk
      simp only at hk
      split at hk
      · rename_i d hd
        simp only [Bool.and_eq_true, decide_eq_true_eq] at hk
        obtain ⟨df, N, fd, h1, h2, h3⟩ := one i d hk.2 hd
        have ha : He.fAd K d.at_ = He.ga K x := by rw [hk.1]; rfl
        rw [ha] at h1 h2
        refine ⟨⟨_, fd, _, [], h2, He.glo_ok X G (fact_of c (by simp only [Lit.facts, List.mem_append, List.mem_filterMap]; exact .inl (.inl (.inl (.inr ⟨_, List.mem_of_getElem? hx, rfl⟩))))), h1, h3, .nil⟩⟩
      · cases hk
    · have hk := all_range g6 (List.getElem?_eq_some_iff.mp hC).1
      rw [hC] at hk
      split at hk
      · rename_i x' i hx' hi
        cases hx'
        split at hk
        · rename_i d hd
          simp only [Bool.and_eq_true, decide_eq_true_eq] at hk
          obtain ⟨df, N, fd, h1, h2, h3⟩ := one i d hk.2 hd
          have ha : He.fAd K d.at_ = He.ma K (He.ga K x) "__init__" := by rw [hk.1]; rfl
          rw [ha] at h2
          have mem : ∀ f ∈ [He.Fa.glo x, .cls x, .mkr x], f ∈ l.facts := fun f hf => by
            simp only [Lit.facts, List.mem_append, List.mem_flatMap]; exact .inl (.inl (.inr ⟨x, List.mem_of_getElem? hC, .inl hf⟩))
          exact ⟨i, He.ga K x, hi, by simp only [Lit.kx, hC]; rfl, ⟨⟨_, fd, _, [], He.mkr_ok (fact_of c (mem _ (by simp))), h2, He.glo_ok X G (fact_of c (mem _ (by simp))), h3, .nil⟩⟩⟩
        · cases hk
      · cases hk
    · exact of_decide_eq_true (List.all_eq_true.mp g3 name (List.mem_of_getElem? hm))
    · simp only [Lit.pg] at hf
      cases hr : l.mth[C]? with
      | none => rw [hr] at hf; cases hf
      | some r =>
        rw [hr] at hf
        have hf : (r[mi]?).join = some f := hf
        have hri : r[mi]? = some (some f) := by
          cases h : r[mi]? with
          | none => rw [h] at hf; cases hf
          | some o => rw [h] at hf; rw [show o = some f from hf]
        have hk := all_range g7 (List.getElem?_eq_some_iff.mp hr).1
        rw [hr] at hk
        split at hk
        · rename_i x r' hx hr'
          cases hr'
          simp only [Bool.and_eq_true] at hk
          have hk2 := all_range hk.2 (List.getElem?_eq_some_iff.mp hri).1
          rw [hri, hm] at hk2
          simp only at hk2
          split at hk2
          · rename_i d hd
            simp only [Bool.and_eq_true, decide_eq_true_eq] at hk2
            obtain ⟨df, N, fd, h1, h2, h3⟩ := one f d hk2.2 hd
            have ha : He.fAd K d.at_ = He.ma K (He.ga K x) name := by rw [hk2.1]; rfl
            rw [ha] at h2
            refine ⟨He.ga K x, by simp only [Lit.kx, hx]; rfl, ⟨⟨_, fd, _, [], He.cls_ok (fact_of c ?_), He.meth_ok (fact_of c ?_), h2, h3, .nil⟩⟩⟩
            · simp only [Lit.facts, List.mem_append, List.mem_flatMap]; exact .inl (.inl (.inr ⟨x, List.mem_of_getElem? hx, by simp⟩))
            · simp only [Lit.facts, List.mem_append, List.mem_flatMap]
              refine .inr ⟨(x, r), ?_, ?_⟩
              · refine List.mem_of_getElem? (i := C) ?_
                rw [List.getElem?_zip_eq_some]
                exact ⟨hx, hr⟩
              · simp only [List.mem_filterMap]
                refine ⟨(name, some f), ?_, rfl⟩
                refine List.mem_of_getElem? (i := mi) ?_
                rw [List.getElem?_zip_eq_some]
                exact ⟨hm, hri⟩
          · cases hk2
        · cases hk
  intro j
  induction j with
  | zero =>
    have h0 : ∀ (i : Nat) (df : Df) (d : He.DefD) (N : List Str) (fd : FuncData), l.defs[i]? = some df → l.ds[i]? = some d → l.Ns[i]? = some N → FunD K d.name d.qual d.params d.body d.scope (d.dvs K) (d.kws K) (He.fAd K d.at_) fd →
      FnOk P w K mg base C8.CX0 (2 * 0) (He.fAd K d.at_) fd (N.take df.np) (spR (l.kx K) l.nm.fl l.pg 0 i) := fun i df d N fd _ _ _ _ => def_zero (df := df)
    exact ⟨key 0 h0, h0⟩
  | succ j ih =>
    have h1 : ∀ (i : Nat) (df : Df) (d : He.DefD) (N : List Str) (fd : FuncData), l.defs[i]? = some df → l.ds[i]? = some d → l.Ns[i]? = some N → FunD K d.name d.qual d.params d.body d.scope (d.dvs K) (d.kws K) (He.fAd K d.at_) fd →
      FnOk P w K mg base C8.CX0 (2 * (j + 1)) (He.fAd K d.at_) fd (N.take df.np) (spR (l.kx K) l.nm.fl l.pg (j + 1) i) := fun i df d N fd hdf hd hN F => by
      obtain ⟨d', N', q1, q2, q3⟩ := defsC_at ok.defs hdf
      rw [hd] at q1; cases q1
      rw [hN] at q2; cases q2
      unfold defC at q3
      simp only [Bool.and_eq_true, decide_eq_true_eq] at q3
      obtain ⟨⟨⟨⟨⟨q4, q5⟩, q6⟩, q7⟩, q8⟩, q9⟩ := q3
      exact def_ok hdf ⟨q4, q5, q6, q7⟩ ih.1 F
    exact ⟨key (j + 1) h1, h1⟩
end
end EV
end
section
set_option maxRecDepth 100000
set_option autoImplicit false
/-! EV: the end of a law. -/
namespace EV
open PySem L2
theorem rvs_ints {k : Kx} {G : Hp} {m : List Addr} : ∀ ns : List Int, RVs k G m (ns.map EV.D.int) (ns.map V.int)
  | [] => .nil
  | n :: ns => .cons RV.ofI (rvs_ints ns)
theorem lit_F {l : Lit} (ok : l.Ok) {P : Program} {w : World} {mg : Str → Option Value} {h : Heap} {fa : Addr} {L J n z : Nat} {df : Df} {d : He.DefD} {N : List Str} {x nm : Str} (hfn : l.nm.fn[L]? = some (some nm)) (hdf : l.defs[L]? = some df) (hd : l.ds[L]? = some d) (hN : l.Ns[L]? = some N) (hx : N.take df.np = [x])
    (hat : d.at_ = (nm, none)) (hdfl : d.dfl = [])
    (hrun : ∀ ns : List Int, ns.length ≤ n → ∃ S', run l.pg J L [.slst (ns.map .int)] 0 [] = some (.bl true, S'))
    (Y : (He.hookD z l.facts l.ds).says w h) (G : h.Ns mainGlobals mg) (hmg : mg nm = some (.ref fa)) :
    ∃ (K : PySem.W.Frag) (fd : FuncData) (sp : Sp), K.In h ∧ (∀ (s : Shared) (u : Value), BindsTo s fd ⟨[u], []⟩ [(x, u)]) ∧
        (∀ (H : Hp) (a : Addr) (ns : List Int), ns.length ≤ n → Only H → SqL K H a (ns.map V.int) → sp [.ref a] H (fun v _ => v = .bl true) fun _ _ _ => False) ∧
        ∀ base : Heap, K.In base → base.Ns mainGlobals mg → FnOk P w K mg base C8.CX0 (2 * J) fa fd [x] sp := by
  obtain ⟨K, KX, c⟩ := Y
  obtain ⟨fd, F⟩ := c.def_ L hd
  have hglo : mg nm = some (.ref (He.ga K nm)) := He.glo_ok KX G (fact_of c (by simp only [Lit.facts, List.mem_append, List.mem_filterMap]; exact .inl (.inl (.inl (.inr ⟨_, List.mem_of_getElem? hfn, rfl⟩)))))
  have hfa : fa = He.ga K nm := by rw [hmg] at hglo; cases hglo; rfl
  have haf : He.fAd K d.at_ = He.ga K nm := by rw [hat]; rfl
  have hdv : d.dvs K = [] := by unfold He.DefD.dvs; rw [hdfl]; rfl
  have F' := F
  rw [hdv] at F'
  refine ⟨K, fd, spR (l.kx K) l.nm.fl l.pg J L, KX, fun s u => ?_, fun H a ns hl _ hS => ?_, fun base Kb Gb => ?_⟩
  · have := FunD.bindsA F' (ok.binds L df d N hdf hd hN) s [u] (by rw [hx]; rfl)
    rw [hx] at this
    exact this
  · obtain ⟨S', e⟩ := hrun ns hl
    refine ⟨[], 0, H, [], [.slst (ns.map .int)], [], .bl true, S', by simp, ⟨Same.refl H, rfl, List.nodup_nil, by simp, by simp, by simp⟩, .one ?_, e, fun G' m' v H' x' s' r' => r'.bl_inv⟩
    simp only [RV]
    exact ⟨a, _, rfl, hS, rvs_ints ns⟩
  · have := ((lit_prm (P := P) (w := w) (base := base) ok KX G c) J).2 L df d N fd hdf hd hN F
    rw [hx, haf, ← hfa] at this
    exact this
end EV
end
section
set_option maxRecDepth 100000
set_option autoImplicit false
set_option maxHeartbeats 1000000
/-! the helpers that every law shares -/
namespace EV
open PySem L2

theorem set_same {α : Type} {l : List α} {n : Nat} {x : α} (h : l[n]? = some x) : l.set n x = l := by
  refine List.ext_getElem? fun i => ?_
  by_cases hi : n = i
  · subst hi; rw [List.getElem?_set_self (List.getElem?_eq_some_iff.mp h).1, h]
  · rw [List.getElem?_set_ne hi]
/-- a bag of numbers lies at the place n -/
def BagAt (S : Sto) (n : Nat) (a b c : Int) (xs : List Int) : Prop := S[n]? = some (.lst [.int a, .int b, .int c, .lst (xs.map .int)])
abbrev bagCell (a b c : Int) (xs : List Int) : Cell := .lst [.int a, .int b, .int c, .lst (xs.map .int)]
theorem BagAt.set {S : Sto} {n : Nat} {a b c : Int} {xs : List Int} (h : BagAt S n a b c xs) (a' b' c' : Int) : BagAt (S.set n (bagCell a' b' c' xs)) n a' b' c' xs := by
  unfold BagAt at *
  rw [List.getElem?_set_self (List.getElem?_eq_some_iff.mp h).1]
theorem atI_0 {a b c d : EV.D} : atI [a, b, c, d] 0 = some a := rfl
theorem atI_1 {a b c d : EV.D} : atI [a, b, c, d] 1 = some b := rfl
theorem atI_2 {a b c d : EV.D} : atI [a, b, c, d] 2 = some c := rfl
theorem atI_3 {a b c d : EV.D} : atI [a, b, c, d] 3 = some d := rfl
section
variable {S : Sto} {n : Nat} {a b c : Int} {xs : List Int}
theorem BagAt.ix0 (h : BagAt S n a b c xs) : itemAt S (.loc n) (.int 0) = some (.int a) := by
  unfold BagAt at h; simp [itemAt, seqOf, tupOf, lstOf, h, atI_0]
theorem BagAt.ix1 (h : BagAt S n a b c xs) : itemAt S (.loc n) (.int 1) = some (.int b) := by
  unfold BagAt at h; simp [itemAt, seqOf, tupOf, lstOf, h, atI_1]
theorem BagAt.ix2 (h : BagAt S n a b c xs) : itemAt S (.loc n) (.int 2) = some (.int c) := by
  unfold BagAt at h; simp [itemAt, seqOf, tupOf, lstOf, h, atI_2]
theorem BagAt.ix3 (h : BagAt S n a b c xs) : itemAt S (.loc n) (.int 3) = some (.lst (xs.map .int)) := by
  unfold BagAt at h; simp [itemAt, seqOf, tupOf, lstOf, h, atI_3]
theorem okIn_int {b n : Nat} {i : Int} : okIn b n (.int i) = true := by simp [okIn, EV.D.under]
theorem ixN4_0 : ixN 4 0 = some 0 := rfl
theorem ixN4_1 : ixN 4 1 = some 1 := rfl
theorem ixN4_2 : ixN 4 2 = some 2 := rfl
theorem BagAt.st0 {B : Nat} {v : Int} (h : BagAt S n a b c xs) : setIx B S (.loc n) (.int 0) (.int v) = some (S.set n (bagCell v b c xs)) := by
  unfold BagAt at h; simp [setIx, okIn_int, h, ixN4_0]
theorem BagAt.st1 {B : Nat} {v : Int} (h : BagAt S n a b c xs) : setIx B S (.loc n) (.int 1) (.int v) = some (S.set n (bagCell a v c xs)) := by
  unfold BagAt at h; simp [setIx, okIn_int, h, ixN4_1]
theorem BagAt.st2 {B : Nat} {v : Int} (h : BagAt S n a b c xs) : setIx B S (.loc n) (.int 2) (.int v) = some (S.set n (bagCell a b v xs)) := by
  unfold BagAt at h; simp [setIx, okIn_int, h, ixN4_2]
end
theorem log2_small {i : Int} (h : -(2 ^ 200) < i ∧ i < 2 ^ 200) : i.natAbs.log2 ≤ 200 := by
  by_cases h0 : i.natAbs = 0
  · rw [h0]; decide
  · have h1 : i.natAbs < 2 ^ 200 := by omega
    have := (Nat.log2_lt h0).mpr h1
    omega
theorem binMul {S : Sto} {i j : Int} (hi : -(2 ^ 200) < i ∧ i < 2 ^ 200) (hj : -(2 ^ 200) < j ∧ j < 2 ^ 200) : binop .Mult S (.int i) (.int j) = some (.d (.int (i * j))) := by
  have h1 := log2_small hi
  have h2 := log2_small hj
  unfold binop
  simp only
  rw [if_pos (by omega)]
/-- the number that is looked at -/
def cellOfBag (xs : List Int) (c : Int) : Int := ((xs.drop c.toNat) ++ [0]).headD 0
theorem take_tail (C : Cl) (B n : Nat) (S : Sto) (a b c m : Int) (xs : List Int) (r4 r5 : Option EV.D) (h : BagAt S n a b c xs) (hb0 : 0 ≤ b) (hb : b < 2147483648) (hm0 : 0 < m) (hm : m < 1073741824) (ha : 0 ≤ a) :
    ∃ v a', 0 ≤ v ∧ v < m ∧ 0 ≤ a' ∧ excs C B (.cons (.iff (.cmp .Gt (.ix (.var 0) (.cst (.int 0))) (.cst (.int 0)))
  (.cons (.set (.nm 6) (.bin .Mod (.bf .int (.cons (.ix (.var 0) (.cst (.int 0))) .nil)) (.var 1)))
  (.cons (.set (.ix (.var 0) (.cst (.int 0))) (.bin .FloorDiv (.bf .int (.cons (.ix (.var 0) (.cst (.int 0))) .nil)) (.var 1)))
  (.cons (.ret (.var 6))
  .nil)))
  .nil)
  (.cons (.set (.nm 2) (.bin .Mod (.bf .int (.cons (.bin .Mult (.bin .Add (.ix (.var 0) (.cst (.int 1))) (.cst (.int 1))) (.cst (.int 39373))) .nil)) (.cst (.int 1000000007))))
  (.cons (.set (.nm 3) (.bin .Mod (.bf .int (.cons (.bin .Mult (.bin .Mod (.bf .int (.cons (.bin .Mult (.var 2) (.var 2)) .nil)) (.cst (.int 998244353))) (.cst (.int 30011))) .nil)) (.cst (.int 998244353))))
  (.cons (.ret (.bin .Mod (.bf .int (.cons (.bin .FloorDiv (.var 3) (.cst (.int 7))) .nil)) (.var 1)))
  .nil)))) [some (.loc n), some (.int m), none, none, r4, r5, none] S = some (.rt (.int v) (S.set n (bagCell a' b c xs))) := by
  by_cases ha1 : 0 < a
  · refine ⟨a % m, a / m, Int.emod_nonneg _ (by omega), Int.emod_lt_of_pos _ hm0, Int.ediv_nonneg ha (by omega), ?_⟩
    simp [excs, exc, ev, evs, dOf, tOf, Vl.frz, h.ix0, h.st0, cmpop, ltD, truth, binop, bfun, b1, bInt, ha1, asg, hm0, hm]
  · have ha0 : a = 0 := by omega
    have e1 : 0 ≤ (b + 1) * 39373 % 1000000007 ∧ (b + 1) * 39373 % 1000000007 < 1000000007 := ⟨Int.emod_nonneg _ (by decide), Int.emod_lt_of_pos _ (by decide)⟩
    generalize hg : (b + 1) * 39373 % 1000000007 = g at e1
    have e2 : 0 ≤ g * g % 998244353 ∧ g * g % 998244353 < 998244353 := ⟨Int.emod_nonneg _ (by decide), Int.emod_lt_of_pos _ (by decide)⟩
    generalize hg2 : g * g % 998244353 = g2 at e2
    generalize hg3 : g2 * 30011 % 998244353 = g3
    have m1 : ∀ S, binop .Mult S (.int (b + 1)) (.int 39373) = some (.d (.int ((b + 1) * 39373))) := fun S => binMul (by omega) (by omega)
    have m2 : ∀ S, binop .Mult S (.int g) (.int g) = some (.d (.int (g * g))) := fun S => binMul (by omega) (by omega)
    have m3 : ∀ S, binop .Mult S (.int g2) (.int 30011) = some (.d (.int (g2 * 30011))) := fun S => binMul (by omega) (by omega)
    have a1 : ∀ S (i j : Int), binop .Add S (.int i) (.int j) = some (.d (.int (i + j))) := fun _ _ _ => rfl
    have d1 : ∀ S (i j : Int), 0 < j → binop .Mod S (.int i) (.int j) = some (.d (.int (i % j))) := fun S i j hj => by simp [binop, hj]
    have f1 : ∀ S (i : Int), binop .FloorDiv S (.int i) (.int 7) = some (.d (.int (i / 7))) := fun S i => by simp [binop]
    refine ⟨g3 / 7 % m, a, Int.emod_nonneg _ (by omega), Int.emod_lt_of_pos _ hm0, ha, ?_⟩
    have hS : S.set n (bagCell a b c xs) = S := by
      unfold BagAt at h
      exact set_same h
    rw [hS]
    simp [excs, exc, ev, evs, dOf, tOf, Vl.frz, h.ix0, h.ix1, cmpop, ltD, truth, a1, d1, m1, m2, m3, f1, hg, hg2, hg3, bfun, b1, bInt, ha0, asg, hm0]

theorem cut_from {xs : List Int} {c : Int} (hc : 0 ≤ c) : cutD (xs.map EV.D.int) (some c) none = (xs.drop c.toNat).map EV.D.int := by
  unfold cutD
  have h1 : HT.sIx (xs.map EV.D.int).length 0 (some c) = min c.toNat xs.length := by
    show (if c < 0 then (c + ((xs.map EV.D.int).length : Int)).toNat else min c.toNat (xs.map EV.D.int).length) = _
    rw [if_neg (by omega), List.length_map]
  rw [h1, HT.sIx_none, List.take_of_length_le (by rw [List.length_drop]; omega), List.map_drop]
  by_cases h : c.toNat ≤ xs.length
  · rw [Nat.min_eq_left h]
  · rw [Nat.min_eq_right (by omega), List.drop_eq_nil_of_le (by simp), List.drop_eq_nil_of_le (by simp; omega)]
theorem atI_head {zs : List Int} : atI (zs.map EV.D.int ++ [.int 0]) 0 = some (.int ((zs ++ [0]).headD 0)) := by
  cases zs with
  | nil => rfl
  | cons z zs =>
    simp only [atI, ixN, List.map_cons, List.cons_append, List.length_cons, List.length_append, List.length_map, List.length_nil, List.headD_cons]
    rw [if_pos (by omega), if_pos (by omega)]
    rfl
theorem eqD_int {S : Sto} {i j : Int} : eqD S (.int i) (.int j) = some (i == j) := by
  show (if SeqAt.shaped (.int i) = true ∧ SeqAt.shaped (.int j) = true then some (PyData.eqv (.int i) (.int j)) else none) = _
  rw [if_pos ⟨by simp [SeqAt.shaped, PyData.canLay0, PyData.depth], by simp [SeqAt.shaped, PyData.canLay0, PyData.depth]⟩]
  simp [PyData.eqv]
theorem itemAt_lst {S : Sto} {ys : List EV.D} {i : Int} : itemAt S (.lst ys) (.int i) = atI ys i := rfl
theorem slice_lst {S : Sto} {ys : List EV.D} {lo hi : Option Int} : slice S (.lst ys) lo hi .one = some (.fl (cutD ys lo hi)) := rfl
/-- the first half of a draw -/
theorem take_head (C : Cl) (B n : Nat) (S : Sto) (a b c m : Int) (xs : List Int) (rest : Sms) (h : BagAt S n a b c xs) (hb0 : 0 ≤ b) (hb : b < 2147483648) (hc0 : 0 ≤ c) (hc : c < 1000000) (ha : 0 ≤ a) (hlen : xs.length ≤ 63) :
    ∃ a' b' c' r4 r5, 0 ≤ a' ∧ 0 ≤ b' ∧ b' < 2147483648 ∧ 0 ≤ c' ∧ c' ≤ c + 1 ∧ BagAt (S.set n (bagCell a' b' c' xs)) n a' b' c' xs ∧ excs C B (.cons (.iff (.cmp .Eq (.ix (.var 0) (.cst (.int 0))) (.cst (.int 0)))
  (.cons (.set (.nm 4) (.ix (.bin .Add (.sl (.ix (.var 0) (.cst (.int 3))) (.so (.ix (.var 0) (.cst (.int 2)))) .no .one) (.lst (.cons (.cst (.int 0)) .nil))) (.cst (.int 0))))
  (.cons (.augIx (.var 0) (.cst (.int 2)) .Add (.cst (.int 1)))
  (.cons (.iff (.cmp .GtE (.var 4) (.bin .Pow (.cst (.int 10)) (.cst (.int 18))))
  (.cons (.set (.ix (.var 0) (.cst (.int 0))) (.var 4))
  .nil)
  .nil)
  (.cons (.set (.nm 5) (.bin .Add (.bin .Add (.bin .Mult (.ix (.var 0) (.cst (.int 1))) (.cst (.int 48271))) (.bin .Mod (.bf .int (.cons (.var 4) .nil)) (.cst (.int 2147483647)))) (.bin .Mult (.cst (.int 7919)) (.ix (.var 0) (.cst (.int 2))))))
  (.cons (.set (.ix (.var 0) (.cst (.int 1))) (.bin .Mod (.bf .int (.cons (.var 5) .nil)) (.cst (.int 2147483647))))
  .nil)))))
  .nil) rest) [some (.loc n), some (.int m), none, none, none, none, none] S = excs C B rest [some (.loc n), some (.int m), none, none, r4, r5, none] (S.set n (bagCell a' b' c' xs)) := by
  by_cases ha0 : a = 0
  · subst ha0
    obtain ⟨zs, hcut, hzl⟩ : ∃ zs : List Int, cutD (xs.map EV.D.int) (some c) none = zs.map EV.D.int ∧ zs.length ≤ 63 := ⟨_, cut_from hc0, by rw [List.length_drop]; omega⟩
    obtain ⟨v, hv⟩ : ∃ v, (zs ++ [0]).headD 0 = v := ⟨_, rfl⟩
    have hat : atI (zs.map EV.D.int ++ [.int 0]) 0 = some (.int v) := by rw [← hv]; exact atI_head
    have hcell : ∀ S', BagAt S' n 0 b c xs → dOf (ev C B (.ix (.bin .Add (.sl (.ix (.var 0) (.cst (.int 3))) (.so (.ix (.var 0) (.cst (.int 2)))) .no .one) (.lst (.cons (.cst (.int 0)) .nil))) (.cst (.int 0))) [some (.loc n), some (.int m), none, none, none, none, none] S') = some (.int v, S') := fun S' h' => by
      have e1 : binop .Add S' (.lst (zs.map EV.D.int)) (.lst [.int 0]) = some (.fl (zs.map EV.D.int ++ [.int 0])) := by
        simp only [binop, tupOf, lsmOf]
        rw [if_pos (by rw [sizeLine_eq]; simp; omega)]
      have e2 : lz [EV.D.int 0] = some (.fl [.int 0]) := by unfold lz; rw [if_pos (by rw [sizeLine_eq]; decide)]
      simp [ev, evs, evo, dOf, Vl.frz, h'.ix3, h'.ix2, slice_lst, hcut, e1, e2, itemAt_lst, hat]
    have hif : tOf (dOf (ev C B (.cmp .Eq (.ix (.var 0) (.cst (.int 0))) (.cst (.int 0))) [some (.loc n), some (.int m), none, none, none, none, none] S)) = some (true, S) := by
      simp [ev, dOf, tOf, Vl.frz, h.ix0, cmpop, eqD_int, truth]
    have g : ∀ (S : Sto) (i j : Int), binop .Add S (.int i) (.int j) = some (.d (.int (i + j))) := fun _ _ _ => rfl
    have h2 := h.set 0 b (c + 1)
    generalize hS2 : S.set n (bagCell 0 b (c + 1) xs) = S2 at h2
    have pw : ∀ S : Sto, binop .Pow S (.int 10) (.int 18) = some (.d (.int 1000000000000000000)) := fun S => by simp [binop]
    have mm : ∀ (S : Sto) (i : Int), binop .Mod S (.int i) (.int 2147483647) = some (.d (.int (i % 2147483647))) := fun S i => by simp [binop]
    have k1 : ∀ S : Sto, binop .Mult S (.int b) (.int 48271) = some (.d (.int (b * 48271))) := fun S => binMul (by omega) (by omega)
    have k2 : ∀ S : Sto, binop .Mult S (.int 7919) (.int (c + 1)) = some (.d (.int (7919 * (c + 1)))) := fun S => binMul (by omega) (by omega)
    generalize hst : b * 48271 + v % 2147483647 + 7919 * (c + 1) = st
    have hb' : 0 ≤ st % 2147483647 ∧ st % 2147483647 < 2147483648 := ⟨Int.emod_nonneg _ (by decide), Int.lt_trans (Int.emod_lt_of_pos _ (by decide)) (by decide)⟩
    by_cases hbig : 1000000000000000000 ≤ v
    · have h3 := h2.set v b (c + 1)
      generalize hS3 : S2.set n (bagCell v b (c + 1) xs) = S3 at h3
      have h4 := h3.set v (st % 2147483647) (c + 1)
      have e4 : S3.set n (bagCell v (st % 2147483647) (c + 1) xs) = S.set n (bagCell v (st % 2147483647) (c + 1) xs) := by rw [← hS3, ← hS2, List.set_set, List.set_set]
      refine ⟨v, st % 2147483647, c + 1, some (.int v), some (.int st), by omega, hb'.1, hb'.2, by omega, by omega, e4 ▸ h4, ?_⟩
      rw [← e4]
      have c0 := hcell S h
      simp only [excs, exc]
      rw [hif]
      simp only [Option.bind_some, if_true]
      rw [c0]
      simp [ev, evs, dOf, tOf, Vl.frz, h.ix0, h.ix2, h.st2, h2.ix0, h2.st0, h3.ix1, h3.ix2, h3.st1, cmpop, ltD, eqD_int, truth, bfun, b1, bInt, asg, augI, hS2, hS3, pw, mm, k1, k2, g, hbig, hst]
    · have h4 := h2.set 0 (st % 2147483647) (c + 1)
      have e4 : S2.set n (bagCell 0 (st % 2147483647) (c + 1) xs) = S.set n (bagCell 0 (st % 2147483647) (c + 1) xs) := by rw [← hS2, List.set_set]
      refine ⟨0, st % 2147483647, c + 1, some (.int v), some (.int st), by omega, hb'.1, hb'.2, by omega, by omega, e4 ▸ h4, ?_⟩
      rw [← e4]
      have c0 := hcell S h
      simp only [excs, exc]
      rw [hif]
      simp only [Option.bind_some, if_true]
      rw [c0]
      simp [ev, evs, dOf, tOf, Vl.frz, h.ix0, h.ix2, h.st2, h2.ix0, h2.ix1, h2.ix2, h2.st1, cmpop, ltD, eqD_int, truth, bfun, b1, bInt, asg, augI, hS2, pw, mm, k1, k2, g, hbig, hst]
  · refine ⟨a, b, c, none, none, ha, hb0, hb, hc0, by omega, ?_, ?_⟩
    · exact h.set a b c
    · have hS : S.set n (bagCell a b c xs) = S := set_same h
      rw [hS]
      simp [excs, exc, ev, evs, dOf, tOf, Vl.frz, h.ix0, cmpop, eqD_int, truth, ha0]
def bTake : Sms := (.cons (.iff (.cmp .Eq (.ix (.var 0) (.cst (.int 0))) (.cst (.int 0)))
  (.cons (.set (.nm 4) (.ix (.bin .Add (.sl (.ix (.var 0) (.cst (.int 3))) (.so (.ix (.var 0) (.cst (.int 2)))) .no .one) (.lst (.cons (.cst (.int 0)) .nil))) (.cst (.int 0))))
  (.cons (.augIx (.var 0) (.cst (.int 2)) .Add (.cst (.int 1)))
  (.cons (.iff (.cmp .GtE (.var 4) (.bin .Pow (.cst (.int 10)) (.cst (.int 18))))
  (.cons (.set (.ix (.var 0) (.cst (.int 0))) (.var 4))
  .nil)
  .nil)
  (.cons (.set (.nm 5) (.bin .Add (.bin .Add (.bin .Mult (.ix (.var 0) (.cst (.int 1))) (.cst (.int 48271))) (.bin .Mod (.bf .int (.cons (.var 4) .nil)) (.cst (.int 2147483647)))) (.bin .Mult (.cst (.int 7919)) (.ix (.var 0) (.cst (.int 2))))))
  (.cons (.set (.ix (.var 0) (.cst (.int 1))) (.bin .Mod (.bf .int (.cons (.var 5) .nil)) (.cst (.int 2147483647))))
  .nil)))))
  .nil)
  (.cons (.iff (.cmp .Gt (.ix (.var 0) (.cst (.int 0))) (.cst (.int 0)))
  (.cons (.set (.nm 6) (.bin .Mod (.bf .int (.cons (.ix (.var 0) (.cst (.int 0))) .nil)) (.var 1)))
  (.cons (.set (.ix (.var 0) (.cst (.int 0))) (.bin .FloorDiv (.bf .int (.cons (.ix (.var 0) (.cst (.int 0))) .nil)) (.var 1)))
  (.cons (.ret (.var 6))
  .nil)))
  .nil)
  (.cons (.set (.nm 2) (.bin .Mod (.bf .int (.cons (.bin .Mult (.bin .Add (.ix (.var 0) (.cst (.int 1))) (.cst (.int 1))) (.cst (.int 39373))) .nil)) (.cst (.int 1000000007))))
  (.cons (.set (.nm 3) (.bin .Mod (.bf .int (.cons (.bin .Mult (.bin .Mod (.bf .int (.cons (.bin .Mult (.var 2) (.var 2)) .nil)) (.cst (.int 998244353))) (.cst (.int 30011))) .nil)) (.cst (.int 998244353))))
  (.cons (.ret (.bin .Mod (.bf .int (.cons (.bin .FloorDiv (.var 3) (.cst (.int 7))) .nil)) (.var 1)))
  .nil)))))
theorem take_body (C : Cl) (B n : Nat) (S : Sto) (a b c m : Int) (xs : List Int) (h : BagAt S n a b c xs) (hb0 : 0 ≤ b) (hb : b < 2147483648) (hc0 : 0 ≤ c) (hc : c < 1000000) (ha : 0 ≤ a) (hlen : xs.length ≤ 63) (hm0 : 0 < m) (hm : m < 1073741824) :
    ∃ v a' b' c', 0 ≤ v ∧ v < m ∧ 0 ≤ a' ∧ 0 ≤ b' ∧ b' < 2147483648 ∧ 0 ≤ c' ∧ c' ≤ c + 1 ∧ excs C B bTake [some (.loc n), some (.int m), none, none, none, none, none] S = some (.rt (.int v) (S.set n (bagCell a' b' c' xs))) := by
  obtain ⟨a1, b1, c1, r4, r5, h1, h2, h3, h4, h5, h6, h7⟩ := take_head C B n S a b c m xs _ h hb0 hb hc0 hc ha hlen
  obtain ⟨v, a2, h8, h9, h10, h11⟩ := take_tail C B n _ a1 b1 c1 m xs r4 r5 h6 h2 h3 hm0 hm h1
  refine ⟨v, a2, b1, c1, h8, h9, h10, h2, h3, h4, h5, ?_⟩
  unfold bTake
  rw [h7, h11, List.set_set]
/-- a bag as the laws keep it -/
structure Bag (S : Sto) (n : Nat) (k : Int) : Prop where
  ex : ∃ (a b c : Int) (xs : List Int), BagAt S n a b c xs ∧ 0 ≤ a ∧ 0 ≤ b ∧ b < 2147483648 ∧ 0 ≤ c ∧ c ≤ k ∧ xs.length ≤ 63
theorem Bag.mono {S : Sto} {n : Nat} {k k' : Int} (h : Bag S n k) (hk : k ≤ k') : Bag S n k' := by
  obtain ⟨a, b, c, xs, h1, h2, h3, h4, h5, h6, h7⟩ := h.ex
  exact ⟨a, b, c, xs, h1, h2, h3, h4, h5, by omega, h7⟩
/-- one draw: a number below m, the bag goes on, nothing else changes -/
theorem take_run {pg : Pg} {f : Nat} (hf : pg.defs[f]? = some ⟨7, 2, true, bTake⟩) (j B : Nat) {S : Sto} {n : Nat} {k m : Int} (h : Bag S n k) (hk : k < 999999) (hm0 : 0 < m) (hm : m < 1073741824) :
    ∃ v S', 0 ≤ v ∧ v < m ∧ run pg (j + 1) f [.loc n, .int m] B S = some (.int v, S') ∧ Bag S' n (k + 1) ∧ S'.length = S.length ∧ ∀ i, i ≠ n → S'[i]? = S[i]? := by
  obtain ⟨a, b, c, xs, h1, h2, h3, h4, h5, h6, h7⟩ := h.ex
  obtain ⟨v, a', b', c', q1, q2, q3, q4, q5, q6, q7, q8⟩ := take_body ⟨run pg j, pg.con, pg.mth, pg.ini⟩ S.length n S a b c m xs h1 h3 h4 h5 (by omega) h2 h7 hm0 hm
  refine ⟨v, S.set n (bagCell a' b' c' xs), q1, q2, ?_, ⟨a', b', c', xs, h1.set a' b' c', q3, q4, q5, q6, by omega, h7⟩, by simp, fun i hi => List.getElem?_set_ne (Ne.symm hi)⟩
  have e : run pg (j + 1) f [.loc n, .int m] B S = (excs ⟨run pg j, pg.con, pg.mth, pg.ini⟩ S.length bTake [some (.loc n), some (.int m), none, none, none, none, none] S).bind fun
          | .nx _ S' => fin true S.length .non S'
          | .rt d S' => fin true S.length d S'
          | _ => none := by
    simp only [run, hf]
    rfl
  rw [e, q8]
  simp [fin, EV.D.under, List.take_of_length_le]
end EV
end
section
set_option maxRecDepth 100000
set_option autoImplicit false
set_option maxHeartbeats 4000000
/-! _law_alike of things that are alike, _law_bag -/
namespace EV
open PySem L2
def bAlike : Sms := (.cons (.par [2, 3] (.cons (.new (.lst (.cons (.tup (.cons (.var 0) (.cons (.var 1) .nil))) .nil))) (.cons (.cst (.int 0)) .nil)))
  (.cons (.whl (.cmp .Lt (.var 3) (.bf .len (.cons (.var 2) .nil)))
  (.cons (.set (.tup (.cons (.nm 4) (.cons (.nm 5) .nil))) (.ix (.var 2) (.var 3)))
  (.cons (.aug 3 .Add (.cst (.int 1)))
  (.cons (.iff (.or (.cmp .NotEq (.bf .isinst (.cons (.var 4) (.cons (.cst (.ty "bool")) .nil))) (.bf .isinst (.cons (.var 5) (.cons (.cst (.ty "bool")) .nil)))) (.cmp .NotEq (.bf .isinst (.cons (.var 4) (.cons (.cst (.ty "str")) .nil))) (.bf .isinst (.cons (.var 5) (.cons (.cst (.ty "str")) .nil)))))
  (.cons (.ret (.cst (.bl false)))
  .nil)
  .nil)
  (.cons (.iff (.cmp .NotEq (.bf .isinst (.cons (.var 4) (.cons (.tup (.cons (.cst (.ty "tuple")) (.cons (.cst (.ty "list")) .nil))) .nil))) (.bf .isinst (.cons (.var 5) (.cons (.tup (.cons (.cst (.ty "tuple")) (.cons (.cst (.ty "list")) .nil))) .nil))))
  (.cons (.ret (.cst (.bl false)))
  .nil)
  .nil)
  (.cons (.iff (.bf .isinst (.cons (.var 4) (.cons (.tup (.cons (.cst (.ty "tuple")) (.cons (.cst (.ty "list")) .nil))) .nil)))
  (.cons (.iff (.or (.cmp .NotEq (.bf .isinst (.cons (.var 4) (.cons (.cst (.ty "tuple")) .nil))) (.bf .isinst (.cons (.var 5) (.cons (.cst (.ty "tuple")) .nil)))) (.cmp .NotEq (.bf .len (.cons (.var 4) .nil)) (.bf .len (.cons (.var 5) .nil))))
  (.cons (.ret (.cst (.bl false)))
  .nil)
  .nil)
  (.cons (.ex (.bm .extend (.var 2) (.cons (.bfi .list (.zip (.cons (.var 4) (.cons (.var 5) .nil)))) .nil)))
  .nil))
  (.cons (.iff (.cmp .NotEq (.var 4) (.var 5))
  (.cons (.ret (.cst (.bl false)))
  .nil)
  .nil)
  .nil))
  .nil))))))
  (.cons (.ret (.cst (.bl true)))
  .nil)))
def alBody : Sms := (.cons (.set (.tup (.cons (.nm 4) (.cons (.nm 5) .nil))) (.ix (.var 2) (.var 3)))
  (.cons (.aug 3 .Add (.cst (.int 1)))
  (.cons (.iff (.or (.cmp .NotEq (.bf .isinst (.cons (.var 4) (.cons (.cst (.ty "bool")) .nil))) (.bf .isinst (.cons (.var 5) (.cons (.cst (.ty "bool")) .nil)))) (.cmp .NotEq (.bf .isinst (.cons (.var 4) (.cons (.cst (.ty "str")) .nil))) (.bf .isinst (.cons (.var 5) (.cons (.cst (.ty "str")) .nil)))))
  (.cons (.ret (.cst (.bl false)))
  .nil)
  .nil)
  (.cons (.iff (.cmp .NotEq (.bf .isinst (.cons (.var 4) (.cons (.tup (.cons (.cst (.ty "tuple")) (.cons (.cst (.ty "list")) .nil))) .nil))) (.bf .isinst (.cons (.var 5) (.cons (.tup (.cons (.cst (.ty "tuple")) (.cons (.cst (.ty "list")) .nil))) .nil))))
  (.cons (.ret (.cst (.bl false)))
  .nil)
  .nil)
  (.cons (.iff (.bf .isinst (.cons (.var 4) (.cons (.tup (.cons (.cst (.ty "tuple")) (.cons (.cst (.ty "list")) .nil))) .nil)))
  (.cons (.iff (.or (.cmp .NotEq (.bf .isinst (.cons (.var 4) (.cons (.cst (.ty "tuple")) .nil))) (.bf .isinst (.cons (.var 5) (.cons (.cst (.ty "tuple")) .nil)))) (.cmp .NotEq (.bf .len (.cons (.var 4) .nil)) (.bf .len (.cons (.var 5) .nil))))
  (.cons (.ret (.cst (.bl false)))
  .nil)
  .nil)
  (.cons (.ex (.bm .extend (.var 2) (.cons (.bfi .list (.zip (.cons (.var 4) (.cons (.var 5) .nil)))) .nil)))
  .nil))
  (.cons (.iff (.cmp .NotEq (.var 4) (.var 5))
  (.cons (.ret (.cst (.bl false)))
  .nil)
  .nil)
  .nil))
  .nil)))))
def bBag : Sms := (.cons (.ret (.new (.lst (.cons (.cst (.int 0)) (.cons (.cst (.int 1234567891)) (.cons (.cst (.int 0)) (.cons (.comp (.bf .abs (.cons (.var 1) .nil)) [1] (.nm 1) (.ex (.sl (.var 0) .no (.so (.cst (.int 63))) .one)) .nil) .nil)))))))
  .nil)
/-- two things that the law's own look finds alike -/
inductive Alk : EV.D → EV.D → Prop where
  | non : Alk .non .non
  | bl (b : Bool) : Alk (.bl b) (.bl b)
  | int (i : Int) : Alk (.int i) (.int i)
  | str (s : Str) (h : PyData.strOk s = true) : Alk (.str s) (.str s)
  | tup (xs ys : List EV.D) (h : xs.length = ys.length) (all : ∀ p ∈ xs.zip ys, Alk p.1 p.2) : Alk (.tup xs) (.tup ys)
  | lst (xs ys : List EV.D) (h : xs.length = ys.length) (all : ∀ p ∈ xs.zip ys, Alk p.1 p.2) : Alk (.lst xs) (.lst ys)
mutual
def dSize : EV.D → Nat
  | .tup xs | .lst xs => 1 + dSizes xs
  | _ => 1
def dSizes : List EV.D → Nat
  | [] => 0
  | x :: xs => dSize x + dSizes xs
end
theorem dSize_pos : ∀ d : EV.D, 1 ≤ dSize d
  | .tup xs | .lst xs => by simp [dSize]
  | .non | .bl _ | .int _ | .str _ | .ty _ | .cl _ | .ctup _ | .slst _ | .loc _ => by simp [dSize]
theorem dSizes_len : ∀ ds : List EV.D, ds.length ≤ dSizes ds
  | [] => Nat.le_refl _
  | d :: ds => by
    have := dSize_pos d
    have := dSizes_len ds
    simp only [dSizes, List.length_cons]; omega
/-- what is still to be looked at -/
def pSize : List EV.D → Nat
  | [] => 0
  | .tup (x :: _) :: ps => dSize x + pSize ps
  | _ :: ps => 1 + pSize ps
theorem pSize_app : ∀ ps qs : List EV.D, pSize (ps ++ qs) = pSize ps + pSize qs
  | [], qs => by simp [pSize]
  | p :: ps, qs => by
    have := pSize_app ps qs
    cases p with
    | tup xs => cases xs <;> simp [pSize, this] <;> omega
    | _ => simp [pSize, this]; omega
theorem pSize_zip : ∀ {xs ys : List EV.D}, xs.length = ys.length → pSize (zipD xs ys) = dSizes xs
  | [], [], _ => rfl
  | x :: xs, y :: ys, h => by simp [zipD, pSize, dSizes, pSize_zip (xs := xs) (ys := ys) (by simpa using h)]
theorem pSize_len : ∀ ps : List EV.D, ps.length ≤ pSize ps
  | [] => Nat.le_refl _
  | p :: ps => by
    have h := pSize_len ps
    cases p with
    | tup xs =>
      cases xs with
      | nil => simp [pSize]; omega
      | cons x xs => have := dSize_pos x; simp [pSize]; omega
    | _ => simp [pSize]; omega
/-- a list of pairs of things alike -/
def Pairs (ps : List EV.D) : Prop := ∀ p ∈ ps, ∃ x y, p = .tup [x, y] ∧ Alk x y
theorem pairs_zip {xs ys : List EV.D} (all : ∀ p ∈ xs.zip ys, Alk p.1 p.2) : Pairs (zipD xs ys) := by
  intro p hp
  obtain ⟨i, hi⟩ := List.mem_iff_getElem?.mp hp
  obtain ⟨x, y, h1, h2, rfl⟩ := zipD_at hi
  refine ⟨x, y, rfl, all (x, y) ?_⟩
  refine List.mem_of_getElem? (i := i) ?_
  rw [List.getElem?_zip_eq_some]
  exact ⟨h1, h2⟩
theorem eqD_bl {S : Sto} {i j : Bool} : eqD S (.bl i) (.bl j) = some (i == j) := by
  show (if SeqAt.shaped (.bool i) = true ∧ SeqAt.shaped (.bool j) = true then some (PyData.eqv (.bool i) (.bool j)) else none) = _
  rw [if_pos ⟨by simp [SeqAt.shaped, PyData.canLay0, PyData.depth], by simp [SeqAt.shaped, PyData.canLay0, PyData.depth]⟩]
  simp [PyData.eqv]
theorem eqD_same {S : Sto} {x : EV.D} (h : x = .non ∨ (∃ b, x = .bl b) ∨ (∃ i, x = .int i) ∨ ∃ s, x = .str s ∧ PyData.strOk s = true) : eqD S x x = some true := by
  rcases h with rfl | ⟨b, rfl⟩ | ⟨i, rfl⟩ | ⟨s, rfl, hs⟩
  · show (if SeqAt.shaped .none = true ∧ SeqAt.shaped .none = true then some (PyData.eqv .none .none) else none) = _
    rw [if_pos ⟨by simp [SeqAt.shaped, PyData.canLay0, PyData.depth], by simp [SeqAt.shaped, PyData.canLay0, PyData.depth]⟩]
    simp [PyData.eqv]
  · rw [eqD_bl]; simp
  · rw [eqD_int]; simp
  · show (if SeqAt.shaped (.str s) = true ∧ SeqAt.shaped (.str s) = true then some (PyData.eqv (.str s) (.str s)) else none) = _
    rw [if_pos ⟨by simp [SeqAt.shaped, PyData.canLay0, PyData.depth, hs], by simp [SeqAt.shaped, PyData.canLay0, PyData.depth, hs]⟩]
    simp [PyData.eqv]
theorem alike_step (C : Cl) (B L : Nat) (S : Sto) (ps : List EV.D) (at_ : Nat) (x y x0 y0 : EV.D) (r4 r5 : Option EV.D) (hS : S[L]? = some (.lst ps)) (hB : B ≤ L) (hp : ps[at_]? = some (.tup [x, y])) (ha : Alk x y) (hl : ps.length + dSize x ≤ sizeLine) :
    ∃ qs, Pairs qs ∧ pSize qs + 1 = dSize x ∧ excs C B alBody [some x0, some y0, some (.loc L), some (.int (at_ : Nat)), r4, r5] S = some (.nx [some x0, some y0, some (.loc L), some (.int ((at_ + 1 : Nat) : Int)), some x, some y] (S.set L (.lst (ps ++ qs)))) := by
  have hat : itemAt S (.loc L) (.int (at_ : Nat)) = some (.tup [x, y]) := by
    have hlt := (List.getElem?_eq_some_iff.mp hp).1
    simp only [itemAt, seqOf, tupOf, lstOf, hS, atI, ixN]
    rw [if_pos (by omega), if_pos (by omega)]
    simpa using hp
  have hset : S.set L (.lst (ps ++ [])) = S := by rw [List.append_nil]; exact set_same hS
  have tyN : ∀ (t : String) (ρ : En), ev C B (.cst (.ty t)) ρ S = some (.d (.ty t), S) := fun t ρ => by simp [ev]
  have leaf : (x = .non ∨ (∃ b, x = .bl b) ∨ (∃ i, x = .int i) ∨ ∃ s, x = .str s ∧ PyData.strOk s = true) → y = x → ∃ qs, Pairs qs ∧ pSize qs + 1 = dSize x ∧ excs C B alBody [some x0, some y0, some (.loc L), some (.int (at_ : Nat)), r4, r5] S = some (.nx [some x0, some y0, some (.loc L), some (.int ((at_ + 1 : Nat) : Int)), some x, some y] (S.set L (.lst (ps ++ qs)))) := fun h hy => by
    subst hy
    have he := eqD_same (S := S) h
    refine ⟨[], by simp [Pairs], ?_, ?_⟩
    · rcases h with rfl | ⟨b, rfl⟩ | ⟨i, rfl⟩ | ⟨s, rfl, hs⟩ <;> simp [pSize, dSize]
    · rw [hset]
      rcases h with rfl | ⟨b, rfl⟩ | ⟨i, rfl⟩ | ⟨s, rfl, hs⟩ <;>
        simp [alBody, excs, exc, ev, evs, dOf, tOf, Vl.frz, asg, asgs, tupOf, hat, augI, bfun, b2, b1, isInst, tyOk, tyOkD, kindOk, isK, isKD, tz, sizeLine_eq, cmpop, eqD_bl, he, truth]
  have seqs : ∀ (xs ys : List EV.D), xs.length = ys.length → (∀ p ∈ xs.zip ys, Alk p.1 p.2) → (x = .tup xs ∧ y = .tup ys) ∨ (x = .lst xs ∧ y = .lst ys) → ∃ qs, Pairs qs ∧ pSize qs + 1 = dSize x ∧ excs C B alBody [some x0, some y0, some (.loc L), some (.int (at_ : Nat)), r4, r5] S = some (.nx [some x0, some y0, some (.loc L), some (.int ((at_ + 1 : Nat) : Int)), some x, some y] (S.set L (.lst (ps ++ qs)))) := fun xs ys hlen all hxy => by
    have hsz : dSize x = 1 + dSizes xs := by rcases hxy with ⟨rfl, rfl⟩ | ⟨rfl, rfl⟩ <;> simp [dSize]
    have hzl := dSizes_len xs
    have hz : (zipD xs ys).length = xs.length := by rw [zipD_len, hlen]; simp
    have hlz : lz (zipD xs ys) = some (.fl (zipD xs ys)) := by unfold lz; rw [if_pos (by rw [hz]; omega)]
    have hok : ∀ zs : List EV.D, zs.all (okIn B L) = true := fun zs => by simp [okIn, hB]
    have hex : mExt B L S ps (.lst (zipD xs ys)) = some (.d .non, S.set L (.lst (ps ++ zipD xs ys))) := by
      simp only [mExt, lsmOf]
      rw [if_pos ⟨hok _, by rw [hz]; omega⟩]
    refine ⟨zipD xs ys, pairs_zip all, by rw [pSize_zip hlen, hsz]; omega, ?_⟩
    rcases hxy with ⟨rfl, rfl⟩ | ⟨rfl, rfl⟩ <;>
      simp [alBody, excs, exc, ev, evs, evi, dOf, tOf, Vl.frz, asg, asgs, tupOf, hat, augI, bfun, b2, b1, bLen, seqOf, lstOf, isInst, tyOk, tyOkD, kindOk, isK, isKD, tz, sizeLine_eq, cmpop, eqD_bl, eqD_int, truth, zipF, hlz, mkind, hS, bmeth, lmeth, hex, hlen]
  cases ha with
  | non => exact leaf (.inl rfl) rfl
  | bl b => exact leaf (.inr (.inl ⟨b, rfl⟩)) rfl
  | int i => exact leaf (.inr (.inr (.inl ⟨i, rfl⟩))) rfl
  | str s h => exact leaf (.inr (.inr (.inr ⟨s, rfl, h⟩))) rfl
  | tup xs ys h all => exact seqs xs ys h all (.inl ⟨rfl, rfl⟩)
  | lst xs ys h all => exact seqs xs ys h all (.inr ⟨rfl, rfl⟩)
theorem alike_cond {C : Cl} {B L : Nat} {S : Sto} {ps : List EV.D} {at_ : Nat} {x0 y0 : EV.D} {r4 r5 : Option EV.D} (hS : S[L]? = some (.lst ps)) :
    tOf (dOf (ev C B (.cmp .Lt (.var 3) (.bf .len (.cons (.var 2) .nil))) [some x0, some y0, some (.loc L), some (.int (at_ : Nat)), r4, r5] S)) = some (decide (at_ < ps.length), S) := by
  simp [ev, evs, dOf, tOf, Vl.frz, bfun, b1, bLen, seqOf, tupOf, lstOf, hS, cmpop, ltT, truth]
theorem alike_loop (C : Cl) (B L : Nat) (x0 y0 : EV.D) (hB : B ≤ L) : ∀ (rem fuel : Nat) (S : Sto) (ps : List EV.D) (at_ : Nat) (r4 r5 : Option EV.D), S[L]? = some (.lst ps) → Pairs ps → at_ ≤ ps.length → pSize (ps.drop at_) = rem → rem < fuel → at_ + rem + 1 ≤ sizeLine →
    ∃ qs i r4' r5', whlGo (fun ρ S => tOf (dOf (ev C B (.cmp .Lt (.var 3) (.bf .len (.cons (.var 2) .nil))) ρ S))) (fun ρ S => excs C B alBody ρ S) fuel [some x0, some y0, some (.loc L), some (.int (at_ : Nat)), r4, r5] S = some (.nx [some x0, some y0, some (.loc L), some (.int i), r4', r5'] (S.set L (.lst qs))) := by
  intro rem
  induction rem with
  | zero =>
    intro fuel S ps at_ r4 r5 hS hps hat hrem hf hl
    have : ps.length ≤ at_ := by
      have := pSize_len (ps.drop at_)
      rw [hrem, List.length_drop] at this
      omega
    obtain ⟨f, rfl⟩ : ∃ f, fuel = f + 1 := ⟨fuel - 1, by omega⟩
    refine ⟨ps, at_, r4, r5, ?_⟩
    rw [set_same hS]
    unfold whlGo
    rw [alike_cond hS, show decide (at_ < ps.length) = false by simp; omega]
    rfl
  | succ rem ih =>
    intro fuel S ps at_ r4 r5 hS hps hat hrem hf hl
    obtain ⟨f, rfl⟩ : ∃ f, fuel = f + 1 := ⟨fuel - 1, by omega⟩
    have hlt : at_ < ps.length := by
      cases h : ps.drop at_ with
      | nil => rw [h] at hrem; simp [pSize] at hrem
      | cons a as =>
        have := congrArg List.length h
        rw [List.length_drop, List.length_cons] at this
        omega
    have hget : ps[at_]? = some ps[at_] := List.getElem?_eq_getElem hlt
    obtain ⟨x, y, hxy, ha⟩ := hps ps[at_] (List.getElem_mem hlt)
    rw [hxy] at hget
    have hdrop : ps.drop at_ = .tup [x, y] :: ps.drop (at_ + 1) := by rw [List.drop_eq_getElem_cons hlt, hxy]
    have hx : dSize x + pSize (ps.drop (at_ + 1)) = rem + 1 := by rw [hdrop] at hrem; simpa [pSize] using hrem
    have hpl := pSize_len (ps.drop (at_ + 1))
    rw [List.length_drop] at hpl
    obtain ⟨qs, h1, h2, h3⟩ := alike_step C B L S ps at_ x y x0 y0 r4 r5 hS hB hget ha (by omega)
    have hL : L < S.length := (List.getElem?_eq_some_iff.mp hS).1
    have hql := pSize_len qs
    obtain ⟨us, i, r4', r5', h4⟩ := ih f (S.set L (.lst (ps ++ qs))) (ps ++ qs) (at_ + 1) (some x) (some y) (List.getElem?_set_self hL)
      (fun p hp => by rcases List.mem_append.mp hp with hp | hp; exact hps p hp; exact h1 p hp) (by rw [List.length_append]; omega)
      (by rw [List.drop_append_of_le_length (by omega), pSize_app]; omega) (by omega) (by omega)
    rw [List.set_set] at h4
    refine ⟨us, i, r4', r5', ?_⟩
    unfold whlGo
    rw [alike_cond hS, show decide (at_ < ps.length) = true by simpa using hlt]
    simp only [Option.bind_some, if_true]
    rw [h3]
    simp only [Option.bind_some]
    exact h4
theorem alike_run {pg : Pg} {f : Nat} (hf : pg.defs[f]? = some ⟨6, 2, true, bAlike⟩) (j B : Nat) {S : Sto} {x y : EV.D} (h : Alk x y) (hs : dSize x < 1000000) : run pg (j + 1) f [x, y] B S = some (.bl true, S) := by
  have hL : (S ++ [Cell.lst [.tup [x, y]]])[S.length]? = some (.lst [.tup [x, y]]) := by simp
  obtain ⟨qs, i, r4, r5, h1⟩ := alike_loop ⟨run pg j, pg.con, pg.mth, pg.ini⟩ S.length S.length x y (Nat.le_refl _) (dSize x) fuelW (S ++ [.lst [.tup [x, y]]]) [.tup [x, y]] 0 none none hL
    (fun p hp => by rw [List.mem_singleton] at hp; exact ⟨x, y, hp, h⟩) (Nat.zero_le _) (by simp [pSize]) (by show dSize x < 1000000000000; omega) (by rw [sizeLine_eq]; omega)
  have e : run pg (j + 1) f [x, y] B S = (excs ⟨run pg j, pg.con, pg.mth, pg.ini⟩ S.length bAlike [some x, some y, none, none, none, none] S).bind fun
          | .nx _ S' => fin true S.length .non S'
          | .rt d S' => fin true S.length d S'
          | _ => none := by
    simp only [run, hf]
    rfl
  rw [e]
  have h0 : ((0 : Nat) : Int) = 0 := rfl
  rw [h0] at h1
  have tz2 : tz [x, y] = some (.d (.tup [x, y])) := by unfold tz; rw [if_pos (by rw [sizeLine_eq]; simp)]
  have lz1 : lz [EV.D.tup [x, y]] = some (.fl [.tup [x, y]]) := by unfold lz; rw [if_pos (by rw [sizeLine_eq]; simp)]
  have hb : excs ⟨run pg j, pg.con, pg.mth, pg.ini⟩ S.length bAlike [some x, some y, none, none, none, none] S = some (.rt (.bl true) ((S ++ [Cell.lst [.tup [x, y]]]).set S.length (.lst qs))) := by
    have p1 : exc ⟨run pg j, pg.con, pg.mth, pg.ini⟩ S.length (.par [2, 3] (.cons (.new (.lst (.cons (.tup (.cons (.var 0) (.cons (.var 1) .nil))) .nil))) (.cons (.cst (.int 0)) .nil))) [some x, some y, none, none, none, none] S = some (.nx [some x, some y, some (.loc S.length), some (.int 0), none, none] (S ++ [.lst [.tup [x, y]]])) := by
      simp [exc, ev, evs, dOf, Vl.frz, tz2, lz1, Vl.place, setMany]
    have p2 : exc ⟨run pg j, pg.con, pg.mth, pg.ini⟩ S.length (.whl (.cmp .Lt (.var 3) (.bf .len (.cons (.var 2) .nil))) alBody) [some x, some y, some (.loc S.length), some (.int 0), none, none] (S ++ [.lst [.tup [x, y]]]) = some (.nx [some x, some y, some (.loc S.length), some (.int i), r4, r5] ((S ++ [Cell.lst [.tup [x, y]]]).set S.length (.lst qs))) := by
      rw [exc]; exact h1
    show excs _ _ (.cons (.par [2, 3] _) (.cons (.whl _ alBody) (.cons (.ret (.cst (.bl true))) .nil))) _ _ = _
    rw [excs, p1]
    simp only [Option.bind_some]
    rw [excs, p2]
    simp [excs, exc, ev, dOf, Vl.frz]
  rw [hb]
  simp [fin, EV.D.under]
/-- a comprehension whose parts leave the store as it is -/
theorem compGo_pure {tg : EV.D → En → Sto → Option (En × Sto)} {tst : En → Sto → Option (Bool × Sto)} {elt : En → Sto → Option (EV.D × Sto)} {ws : List Nat} {S0 S : Sto} {ρ : En} {f : EV.D → EV.D} {p : EV.D → Bool} (hst : stay ws S0 S = true) : ∀ (xs acc : List EV.D),
    (∀ x ∈ xs, ∃ ρ', tg x ρ S = some (ρ', S) ∧ tst ρ' S = some (p x, S) ∧ (p x = true → elt ρ' S = some (f x, S))) → acc.length + xs.length ≤ sizeLine → compGo tg tst elt ws S0 ρ xs acc S = some (acc ++ (xs.filter p).map f, S)
  | [], acc, _, _ => by simp [compGo, hst]
  | x :: xs, acc, h, hl => by
    obtain ⟨ρ', h1, h2, h3⟩ := h x List.mem_cons_self
    rw [List.length_cons] at hl
    unfold compGo
    rw [if_pos hst, h1, Option.bind_some, h2, Option.bind_some]
    cases hp : p x with
    | true =>
      simp only [if_true]
      rw [h3 hp, Option.bind_some, if_pos (by omega), compGo_pure hst xs (acc ++ [f x]) (fun y hy => h y (List.mem_cons_of_mem _ hy)) (by simp; omega), List.filter_cons_of_pos hp]
      simp
    | false =>
      simp only [Bool.false_eq_true, if_false]
      rw [compGo_pure hst xs acc (fun y hy => h y (List.mem_cons_of_mem _ hy)) (by omega), List.filter_cons_of_neg (by simp [hp])]
/-- the law's first row: the bag -/
theorem bag_run {pg : Pg} {f : Nat} (hf : pg.defs[f]? = some ⟨2, 1, false, bBag⟩) (j B : Nat) (ns : List Int) (hn : ns.length ≤ 63) (S : Sto) :
    ∃ xs, run pg (j + 1) f [.slst (ns.map .int)] B S = some (.loc S.length, S ++ [bagCell 0 1234567891 0 xs]) ∧ xs.length ≤ 63 := by
  refine ⟨ns.map fun i => if i < 0 then -i else i, ?_, by simpa using hn⟩
  have hc : cutD (ns.map EV.D.int) none (some 63) = ns.map EV.D.int := by
    unfold cutD
    rw [HT.sIx_none, List.drop_zero]
    have : HT.sIx (ns.map EV.D.int).length (ns.map EV.D.int).length (some 63) = ns.length := by
      show (if (63 : Int) < 0 then (63 + ((ns.map EV.D.int).length : Int)).toNat else min (63 : Int).toNat (ns.map EV.D.int).length) = _
      rw [if_neg (by decide), List.length_map]
      show min 63 ns.length = ns.length
      omega
    rw [this]
    exact List.take_of_length_le (by simp)
  have e : run pg (j + 1) f [.slst (ns.map .int)] B S = (excs ⟨run pg j, pg.con, pg.mth, pg.ini⟩ B bBag [some (.slst (ns.map .int)), none] S).bind fun
          | .nx _ S' => fin false S.length .non S'
          | .rt d S' => fin false S.length d S'
          | _ => none := by
    simp only [run, hf]
    rfl
  rw [e]
  have l4 : ∀ a b c d : EV.D, lz [a, b, c, d] = some (.fl [a, b, c, d]) := fun a b c d => by unfold lz; rw [if_pos (by rw [sizeLine_eq]; simp)]
  have sl : slice S (.slst (ns.map .int)) none (some 63) .one = some (.fl (ns.map .int)) := by
    show some (Vl.fl (cutD _ _ _)) = _
    rw [hc]
  have hcomp : ev ⟨run pg j, pg.con, pg.mth, pg.ini⟩ B (.comp (.bf .abs (.cons (.var 1) .nil)) [1] (.nm 1) (.ex (.sl (.var 0) .no (.so (.cst (.int 63))) .one)) .nil) [some (.slst (ns.map .int)), none] S = some (.fl ((ns.map EV.D.int).map fun d => match d with | .int i => .int (if i < 0 then -i else i) | d => d), S) := by
    rw [ev]
    have hi : evi ⟨run pg j, pg.con, pg.mth, pg.ini⟩ B (.ex (.sl (.var 0) .no (.so (.cst (.int 63))) .one)) [some (.slst (ns.map .int)), none] S = some ((ns.map .int, []), S) := by
      simp [evi, ev, evo, dOf, Vl.frz, sl, seqOf, tupOf, lstOf, plOf]
    rw [hi, Option.bind_some]
    rw [compGo_pure (p := fun _ => true) (f := fun d => match d with | .int i => .int (if i < 0 then -i else i) | d => d) (by simp [stay]) _ [] (fun x hx => ?_) (by rw [sizeLine_eq]; simp; omega)]
    · have ff : (ns.map EV.D.int).filter (fun _ => true) = ns.map EV.D.int := List.filter_eq_self.mpr fun _ _ => rfl
      rw [ff]; rfl
    · obtain ⟨i, _, rfl⟩ := List.mem_map.mp hx
      exact ⟨[some (.slst (ns.map .int)), some (.int i)], by simp [asg, wipeE], by simp [evt], fun _ => by simp [ev, evs, dOf, Vl.frz, bfun, b1, bAbs]⟩
  have hb : excs ⟨run pg j, pg.con, pg.mth, pg.ini⟩ B bBag [some (.slst (ns.map .int)), none] S = some (.rt (.loc S.length) (S ++ [bagCell 0 1234567891 0 (ns.map fun i => if i < 0 then -i else i)])) := by
    have hcst : ∀ d, ev ⟨run pg j, pg.con, pg.mth, pg.ini⟩ B (.cst d) [some (.slst (ns.map .int)), none] S = some (.d d, S) := fun d => by simp [ev]
    have hes : evs ⟨run pg j, pg.con, pg.mth, pg.ini⟩ B (.cons (.cst (.int 0)) (.cons (.cst (.int 1234567891)) (.cons (.cst (.int 0)) (.cons (.comp (.bf .abs (.cons (.var 1) .nil)) [1] (.nm 1) (.ex (.sl (.var 0) .no (.so (.cst (.int 63))) .one)) .nil) .nil)))) [some (.slst (ns.map .int)), none] S =
        some ([.int 0, .int 1234567891, .int 0, .lst (ns.map fun i => .int (if i < 0 then -i else i))], S) := by
      simp [evs, hcst, hcomp, dOf, Vl.frz]
    have hnew : ev ⟨run pg j, pg.con, pg.mth, pg.ini⟩ B (.new (.lst (.cons (.cst (.int 0)) (.cons (.cst (.int 1234567891)) (.cons (.cst (.int 0)) (.cons (.comp (.bf .abs (.cons (.var 1) .nil)) [1] (.nm 1) (.ex (.sl (.var 0) .no (.so (.cst (.int 63))) .one)) .nil) .nil)))))) [some (.slst (ns.map .int)), none] S =
        some (.d (.loc S.length), S ++ [bagCell 0 1234567891 0 (ns.map fun i => if i < 0 then -i else i)]) := by
      rw [ev, ev, hes]
      simp [l4, Vl.place]
    unfold bBag
    rw [excs, exc, hnew]
    simp [dOf, Vl.frz]
  rw [hb]
  simp [fin]
end EV
end
section
set_option maxRecDepth 100000
set_option autoImplicit false
set_option maxHeartbeats 4000000
/-! _law_some -/
namespace EV
open PySem L2
def bSome (T : Nat) : Sms := (.cons (.ret (.ix (.var 1) (.call T (.cons (.var 0) (.cons (.bf .len (.cons (.var 1) .nil)) .nil)))))
  .nil)
theorem fin_under {B : Nat} {d : EV.D} {S : Sto} (h : d.under B = true) : fin true B d S = some (d, S.take B) := by
  cases d with
  | loc m =>
    have : m < B := by simpa [EV.D.under] using h
    simp [fin, this]
  | _ => simp [fin, h]
/-- a thing is drawn -/
theorem some_run {pg : Pg} {f T : Nat} (hf : pg.defs[f]? = some ⟨2, 2, true, bSome T⟩) (hT : pg.defs[T]? = some ⟨7, 2, true, bTake⟩) (j B : Nat) {S : Sto} {n : Nat} {k : Int} (h : Bag S n k) (hk : k < 999999) {t : EV.D} {xs : List EV.D} (ht : t = .lst xs ∨ t = .tup xs) (hne : xs ≠ []) (hl : xs.length < 1000000)
    (hu : ∀ x ∈ xs, x.under S.length = true) :
    ∃ x S', x ∈ xs ∧ run pg (j + 2) f [.loc n, t] B S = some (x, S') ∧ Bag S' n (k + 1) ∧ S'.length = S.length ∧ ∀ i, i ≠ n → S'[i]? = S[i]? := by
  have hpos : 0 < xs.length := List.length_pos_iff.mpr hne
  obtain ⟨v, S', q1, q2, q3, q4, q5, q6⟩ := take_run hT j S.length h hk (m := (xs.length : Int)) (by omega) (by omega)
  obtain ⟨w, rfl⟩ : ∃ w : Nat, v = w := ⟨v.toNat, by omega⟩
  have hw : w < xs.length := by omega
  have hat : ∀ S, itemAt S t (.int (w : Nat)) = some xs[w] := fun S => by
    rcases ht with rfl | rfl
    all_goals
      show atI xs _ = _
      unfold atI ixN
      rw [if_pos (by omega), if_pos (by omega)]
      simp [hw]
  have hlen : ∀ S, bLen S t = some (.d (.int xs.length)) := fun S => by rcases ht with rfl | rfl <;> rfl
  refine ⟨xs[w], S', List.getElem_mem hw, ?_, q4, q5, q6⟩
  have e : run pg (j + 2) f [.loc n, t] B S = (excs ⟨run pg (j + 1), pg.con, pg.mth, pg.ini⟩ S.length (bSome T) [some (.loc n), some t] S).bind fun
          | .nx _ S' => fin true S.length .non S'
          | .rt d S' => fin true S.length d S'
          | _ => none := by
    show run pg ((j + 1) + 1) f _ B S = _
    simp only [run, hf]
    rfl
  have hb : excs ⟨run pg (j + 1), pg.con, pg.mth, pg.ini⟩ S.length (bSome T) [some (.loc n), some t] S = some (.rt xs[w] S') := by
    simp [bSome, excs, exc, ev, evs, dOf, Vl.frz, bfun, b1, hlen, q3, hat]
  rw [e, hb]
  show fin true S.length xs[w] S' = _
  rw [fin_under (hu _ (List.getElem_mem hw)), ← q5, List.take_length]
end EV
end
section
set_option maxRecDepth 100000
set_option autoImplicit false
set_option maxHeartbeats 4000000
/-! sorted of ints, of pairs of ints -/
namespace EV
open PySem L2
theorem pures_map {α : Type} {f : α → EV.D} (h : ∀ a, (f a).pure = true) : ∀ xs : List α, EV.D.pures (xs.map f) = true
  | [] => rfl
  | x :: xs => by simp [EV.D.pures, h, pures_map h xs]
/-- sorted goes through a plain order -/
theorem sortD_by {α : Type} (f : α → EV.D) (le : α → α → Bool) (hp : ∀ a, (f a).pure = true) (hal : ∀ a b, W.alike (f a).py (f b).py = true) (hd : ∀ a, (f a).py.depth ≤ 64)
    (hk : (∀ a, ∃ x r, (f a).py = .tuple (x :: r)) ∨ (∀ a, (∀ r, (f a).py ≠ .tuple r) ∧ (f a).py ≠ .none)) (hle : ∀ a b, W.dataLe false EV.D.py (f a) (f b) = le a b) (xs : List α) (hl : xs.length ≤ sizeLine) :
    sortD (xs.map f) = some ((xs.mergeSort le).map f) := by
  have hok : sortOk (xs.map f) = true := by
    unfold sortOk
    simp only [Bool.and_eq_true, decide_eq_true_eq, List.length_map, List.all_eq_true, Bool.or_eq_true]
    refine ⟨⟨⟨⟨pures_map hp xs, hl⟩, fun x hx y hy => ?_⟩, fun x hx => ?_⟩, ?_⟩
    · obtain ⟨a, _, rfl⟩ := List.mem_map.mp hx
      obtain ⟨b, _, rfl⟩ := List.mem_map.mp hy
      exact hal a b
    · obtain ⟨a, _, rfl⟩ := List.mem_map.mp hx
      exact hd a
    · rcases hk with hk | hk
      · refine .inl fun x hx => ?_
        obtain ⟨a, _, rfl⟩ := List.mem_map.mp hx
        obtain ⟨z, r, e⟩ := hk a
        rw [e]
      · refine .inr fun x hx => ?_
        obtain ⟨a, _, rfl⟩ := List.mem_map.mp hx
        obtain ⟨h1, h2⟩ := hk a
        split
        · rename_i r e; exact absurd e (h1 r)
        · rename_i e; exact absurd e h2
        · rfl
  unfold sortD
  rw [if_pos hok]
  congr 1
  exact (List.map_mergeSort (f := f) (r := le) (s := W.dataLe false EV.D.py) fun a _ b _ => (hle a b).symm).symm
theorem sortD_ints (ns : List Int) (hl : ns.length ≤ sizeLine) : sortD (ns.map .int) = some ((ns.mergeSort fun a b => decide (a ≤ b)).map .int) := by
  refine sortD_by .int _ (fun a => rfl) (fun a b => by simp [W.alike, EV.D.py]) (fun a => by simp [EV.D.py, PyData.depth]) (.inr fun a => ⟨fun r => by simp [EV.D.py], by simp [EV.D.py]⟩) (fun a b => ?_) ns hl
  have := congrFun (congrFun (W.dataLe_int (fun i : Int => i)) a) b
  rw [W.dataLe_eq] at this ⊢
  exact this
/-- pairs of ints in the order of their places -/
def pairLe (p q : Int × Int) : Bool := decide (p.1 < q.1) || (decide (p.1 = q.1) && decide (p.2 ≤ q.2))
abbrev pairD (p : Int × Int) : EV.D := .tup [.int p.1, .int p.2]
theorem sortD_pairs (ps : List (Int × Int)) (hl : ps.length ≤ sizeLine) : sortD (ps.map pairD) = some ((ps.mergeSort pairLe).map pairD) := by
  refine sortD_by pairD _ (fun a => by simp [EV.D.pure, EV.D.pures]) (fun a b => by simp [W.alike, W.alikeAll, EV.D.py, EV.D.pys]) (fun a => by simp [EV.D.py, EV.D.pys, PyData.depth, PyData.depthAll]) (.inl fun a => ⟨.int a.1, [.int a.2], by simp [EV.D.py, EV.D.pys]⟩) (fun a b => ?_) ps hl
  rw [W.dataLe_eq]
  show (!W.dataLt (EV.D.py (pairD b)) (EV.D.py (pairD a))) = _
  simp only [EV.D.py, EV.D.pys]
  rw [W.dataLt_tuple, W.dataLt_cons (by simp [W.alike])]
  by_cases h : b.1 = a.1
  · rw [if_pos (by simp [PyData.eqv, h]), W.dataLt_cons (by simp [W.alike])]
    by_cases h2 : b.2 = a.2
    · rw [if_pos (by simp [PyData.eqv, h2])]
      have e : PyProof.Rows.lexLt PyProof.Rows.itemOrd (W.keyToksAll []) (W.keyToksAll []) = false := by rfl
      rw [e]
      unfold pairLe
      simp [h, h2]
    · rw [if_neg (by simp [PyData.eqv, h2]), W.dataLt_int]
      unfold pairLe
      rw [Bool.eq_iff_iff]
      simp only [Bool.not_eq_true', decide_eq_false_iff_not, Bool.or_eq_true, Bool.and_eq_true, decide_eq_true_eq]
      omega
  · rw [if_neg (by simp [PyData.eqv, h]), W.dataLt_int]
    unfold pairLe
    rw [Bool.eq_iff_iff]
    simp only [Bool.not_eq_true', decide_eq_false_iff_not, Bool.or_eq_true, Bool.and_eq_true, decide_eq_true_eq]
    omega
end EV
end
section
set_option maxRecDepth 100000
set_option autoImplicit false
/-! codes of names -/
namespace EV
open PySem L2
/-- where a law keeps what a code names -/
structure Ix where
  fn : List Nat
  cn : List Nat
  cl : List Nat
  mt : List Nat
def Ix.f (x : Ix) (k : Nat) : Nat := x.fn.getD k 0
def Ix.c (x : Ix) (k : Nat) : Nat := x.cn.getD k 0
def Ix.k (x : Ix) (k : Nat) : Nat := x.cl.getD k 0
def Ix.m (x : Ix) (k : Nat) : Nat := x.mt.getD k 0
abbrev F.is_integer : Nat := 0
abbrev F.is_within : Nat := 1
abbrev F.is_pair : Nat := 2
abbrev F.is_level : Nat := 3
abbrev F.is_network : Nat := 4
abbrev F.level_done : Nat := 5
abbrev F.done : Nat := 6
abbrev F.pairs_of : Nat := 7
abbrev F.levelled : Nat := 8
abbrev F.neighbours : Nat := 9
abbrev F.merging : Nat := 10
abbrev F.side_by_side : Nat := 11
abbrev F.ordering : Nat := 12
abbrev F.odd_even : Nat := 13
abbrev F.order_cost : Nat := 14
abbrev F._law_bag : Nat := 15
abbrev F._law_take : Nat := 16
abbrev F._law_some : Nat := 17
abbrev F._law_alike : Nat := 18
abbrev F._law_merging : Nat := 19
abbrev F._law_in_levels : Nat := 20
abbrev F._law_halves : Nat := 21
abbrev F._law_through : Nat := 22
abbrev F.law : Nat := 23
abbrev F.summed : Nat := 24
abbrev F.masked : Nat := 25
abbrev F.unmasked : Nat := 26
abbrev F.gap : Nat := 27
abbrev F.is_let : Nat := 28
abbrev F.stirred : Nat := 29
abbrev F.Tape___init__ : Nat := 30
abbrev F.Tape___eq__ : Nat := 31
abbrev F.Tape_first : Nat := 32
abbrev F.Tape_signs : Nat := 33
abbrev F.Tape_key : Nat := 34
abbrev F.Tape_p : Nat := 35
abbrev F.Tape_width : Nat := 36
abbrev F.Tape_copied : Nat := 37
abbrev F.Tape_with_key : Nat := 38
abbrev F.Tape_with_signs : Nat := 39
abbrev F.Tape_changes : Nat := 40
abbrev F._law_signs : Nat := 41
abbrev F._law_mask : Nat := 42
abbrev F._law_own_tape : Nat := 43
abbrev F._law_tape : Nat := 44
abbrev F._law_gap : Nat := 45
abbrev F._law_all : Nat := 46
abbrev F.law_v2 : Nat := 47
abbrev F.do : Nat := 48
abbrev F.slot : Nat := 49
abbrev F.emptied : Nat := 50
abbrev F.worked_out : Nat := 51
abbrev F.chosen : Nat := 52
abbrev F.is_number : Nat := 53
abbrev F.are_numbers : Nat := 54
abbrev F.are_registers : Nat := 55
abbrev F.is_do : Nat := 56
abbrev F._law_expression : Nat := 57
abbrev F._law_value : Nat := 58
abbrev F._law_with : Nat := 59
abbrev F._law_word : Nat := 60
abbrev F._law_did : Nat := 61
abbrev F._law_uses : Nat := 62
abbrev F._law_power : Nat := 63
abbrev F._law_deep : Nat := 64
abbrev F._law_junk : Nat := 65
abbrev F._law_behind : Nat := 66
abbrev F._law_are_sound : Nat := 67
abbrev F.law_v3 : Nat := 68
abbrev F.is_ordered : Nat := 69
abbrev F.is_node : Nat := 70
abbrev F.end_of : Nat := 71
abbrev F.places_of : Nat := 72
abbrev F.parts_row : Nat := 73
abbrev F.first_bad_row : Nat := 74
abbrev F.reaches_beside : Nat := 75
abbrev F.merge_fault : Nat := 76
abbrev F.node_fault : Nat := 77
abbrev F.paper_fault : Nat := 78
abbrev F.rows_many : Nat := 79
abbrev F._law_mixed : Nat := 80
abbrev F._law_network : Nat := 81
abbrev F._law_lying : Nat := 82
abbrev F._law_in_order : Nat := 83
abbrev F._law_all_pairs : Nat := 84
abbrev F.law_v4 : Nat := 85
abbrev F.power_of : Nat := 86
abbrev F.touched : Nat := 87
abbrev F.cells_by : Nat := 88
abbrev F.do_meet : Nat := 89
abbrev F.hangs : Nat := 90
abbrev F.taking : Nat := 91
abbrev F.ahead_of : Nat := 92
abbrev F.grown : Nat := 93
abbrev F.links_of : Nat := 94
abbrev F.rows_of : Nat := 95
abbrev F.apart_of : Nat := 96
abbrev F.width_of : Nat := 97
abbrev F.offers_bound : Nat := 98
abbrev F.wide_bound : Nat := 99
abbrev F._law_do_deed : Nat := 100
abbrev F._law_rich_stretch : Nat := 101
abbrev F._law_rich_head : Nat := 102
abbrev F._law_rich_stretches : Nat := 103
abbrev F._law_rich_line : Nat := 104
abbrev F._law_sizes : Nat := 105
abbrev F._law_asked : Nat := 106
abbrev F._law_forked : Nat := 107
abbrev F._law_meeting : Nat := 108
abbrev F._law_all_ahead : Nat := 109
abbrev F.law_v5 : Nat := 110
abbrev F.is_apart : Nat := 111
abbrev F.is_one : Nat := 112
abbrev F.do_cover : Nat := 113
abbrev F._law_is_int : Nat := 114
abbrev F._law_is_lot : Nat := 115
abbrev F._law_is_cover : Nat := 116
abbrev F._law_other : Nat := 117
abbrev F.law_v6 : Nat := 118
abbrev F.is_row : Nat := 119
abbrev F.is_table : Nat := 120
abbrev F.take : Nat := 121
abbrev F.give : Nat := 122
abbrev F.Room___init__ : Nat := 123
abbrev F.Room_lot : Nat := 124
abbrev F.Room_free : Nat := 125
abbrev F.Room_left : Nat := 126
abbrev F.level_deeds : Nat := 127
abbrev F.order_by : Nat := 128
abbrev F.with_word : Nat := 129
abbrev F.capped : Nat := 130
abbrev F.share : Nat := 131
abbrev F.reckoned : Nat := 132
abbrev F.counted : Nat := 133
abbrev F.new_row : Nat := 134
abbrev F.is_greater : Nat := 135
abbrev F.do_word : Nat := 136
abbrev F.are_tables : Nat := 137
abbrev F.filled : Nat := 138
abbrev F.answer_of : Nat := 139
abbrev F.PlainRun___init__ : Nat := 140
abbrev F.PlainRun_is_done : Nat := 141
abbrev F.PlainRun_place : Nat := 142
abbrev F.PlainRun_step : Nat := 143
abbrev F.PlainRun_begin : Nat := 144
abbrev F.PlainRun_do : Nat := 145
abbrev F.PlainRun_fall : Nat := 146
abbrev F.PlainRun_cells : Nat := 147
abbrev F.PlainRun_answer : Nat := 148
abbrev F.fallen_answer : Nat := 149
abbrev F.plain_answer : Nat := 150
abbrev F._law_wide_tables : Nat := 151
abbrev F._law_sound_fault : Nat := 152
abbrev F._law_telling : Nat := 153
abbrev F._law_lots : Nat := 154
abbrev F.law_v7 : Nat := 155
abbrev F.row_by_row : Nat := 156
abbrev F.numbered : Nat := 157
abbrev F.leaving : Nat := 158
abbrev F.coming : Nat := 159
abbrev F.step_deeds : Nat := 160
abbrev F.bits_below : Nat := 161
abbrev F.stepped : Nat := 162
abbrev F.compact : Nat := 163
abbrev F.widened : Nat := 164
abbrev F.spread : Nat := 165
abbrev F.fill : Nat := 166
abbrev F.summed_v2 : Nat := 167
abbrev F.numbered_cost : Nat := 168
abbrev F.steps_cost : Nat := 169
abbrev F.compact_cost : Nat := 170
abbrev F.spread_cost : Nat := 171
abbrev F.fill_cost : Nat := 172
abbrev F.stretches_cost : Nat := 173
abbrev F._law_field_above : Nat := 174
abbrev F._law_real : Nat := 175
abbrev F.law_v8 : Nat := 176
abbrev F.takes : Nat := 177
abbrev F.odd_even_paper_of : Nat := 178
abbrev F.odd_even_paper : Nat := 179
abbrev F.merges_many : Nat := 180
abbrev F.insertion : Nat := 181
abbrev F.insertion_paper : Nat := 182
abbrev F.law_v9 : Nat := 183
abbrev F.is_cell : Nat := 184
abbrev F.Walker___init__ : Nat := 185
abbrev F.Walker_is_over : Nat := 186
abbrev F.Walker_skip : Nat := 187
abbrev F.Walker_next_seen : Nat := 188
abbrev F.Walker_may_come : Nat := 189
abbrev F.Walker_moment : Nat := 190
abbrev F.Walker_go : Nat := 191
abbrev F.is_same : Nat := 192
abbrev F.first_bad : Nat := 193
abbrev F.is_view : Nat := 194
abbrev F.moments : Nat := 195
abbrev F.is_quiet : Nat := 196
abbrev F._law_is_in : Nat := 197
abbrev F._law_meant : Nat := 198
abbrev F._law_line_tables : Nat := 199
abbrev F._law_stepped : Nat := 200
abbrev F._law_unmask : Nat := 201
abbrev F._law_fresh : Nat := 202
abbrev F._law_sign : Nat := 203
abbrev F._law_got : Nat := 204
abbrev F._law_fall : Nat := 205
abbrev F._law_over : Nat := 206
abbrev F._law_did_act : Nat := 207
abbrev F._law_led : Nat := 208
abbrev F._law_line_cells : Nat := 209
abbrev F._law_bent_cell : Nat := 210
abbrev F._law_near_acts : Nat := 211
abbrev F._law_is_cell : Nat := 212
abbrev F._law_walk : Nat := 213
abbrev F._law_may : Nat := 214
abbrev F.law_v10 : Nat := 215
abbrev F._wall : Nat := 216
abbrev F.filled_by : Nat := 217
abbrev F.used_by : Nat := 218
abbrev F.used_in : Nat := 219
abbrev F.filled_in : Nat := 220
abbrev F.deeds_of : Nat := 221
abbrev F.PlainRun_fall_v2 : Nat := 222
abbrev F.sources : Nat := 223
abbrev F.written_in : Nat := 224
abbrev F.Leans___init__ : Nat := 225
abbrev F.Leans_begin : Nat := 226
abbrev F.Leans_do : Nat := 227
abbrev F.Leans_mix : Nat := 228
abbrev F.leans_of : Nat := 229
abbrev F.takes_behind : Nat := 230
abbrev F.gives_behind : Nat := 231
abbrev F.plain_rows : Nat := 232
abbrev F._law_plain_rows : Nat := 233
abbrev F._law_leans : Nat := 234
abbrev F._law_otherwise : Nat := 235
abbrev F.law_v11 : Nat := 236
abbrev F.order : Nat := 237
abbrev F.names_used : Nat := 238
abbrev F.made_width : Nat := 239
abbrev F.made_bound : Nat := 240
abbrev F.made_size : Nat := 241
abbrev F.size_by : Nat := 242
abbrev F.Maker___init__ : Nat := 243
abbrev F.Maker_room : Nat := 244
abbrev F.Maker_by_networks : Nat := 245
abbrev F.Maker_orders : Nat := 246
abbrev F.Maker_width : Nat := 247
abbrev F.Maker_cells : Nat := 248
abbrev F.Maker_put : Nat := 249
abbrev F.Maker_copied : Nat := 250
abbrev F.Maker_alike : Nat := 251
abbrev F.Maker_together : Nat := 252
abbrev F.Maker_ordered : Nat := 253
abbrev F.Maker_led : Nat := 254
abbrev F.Maker_have : Nat := 255
abbrev F.Maker_whole_line : Nat := 256
abbrev F.either : Nat := 257
abbrev F.sides_of : Nat := 258
abbrev F.looked_for : Nat := 259
abbrev F.semi : Nat := 260
abbrev F._law_in_row : Nat := 261
abbrev F._law_made : Nat := 262
abbrev F._law_all_tables : Nat := 263
abbrev F._law_stands : Nat := 264
abbrev F.law_v12 : Nat := 265
abbrev F.Maker_alike_v2 : Nat := 266
abbrev F.Maker_together_v2 : Nat := 267
abbrev F.flag_by : Nat := 268
abbrev F.in_order : Nat := 269
abbrev F.same_as_one : Nat := 270
abbrev F.distinct : Nat := 271
abbrev F.grouped : Nat := 272
abbrev F.topped : Nat := 273
abbrev F._law_step : Nat := 274
abbrev F._law_built : Nat := 275
abbrev F.law_v13 : Nat := 276
abbrev F.Maker_ordered_v2 : Nat := 277
abbrev F.Maker_led_v2 : Nat := 278
abbrev F.keep : Nat := 279
abbrev F.mapped : Nat := 280
abbrev F.counted_v2 : Nat := 281
abbrev F.united : Nat := 282
abbrev F.ranked : Nat := 283
abbrev F.new_row_v2 : Nat := 284
abbrev F._law_size : Nat := 285
abbrev F._law_step_v2 : Nat := 286
abbrev F._law_built_v2 : Nat := 287
abbrev F.law_v14 : Nat := 288
abbrev F.integer_octets : Nat := 289
abbrev F.read_integer : Nat := 290
abbrev F.check_of : Nat := 291
abbrev F.sealed : Nat := 292
abbrev F.is_sealed : Nat := 293
abbrev F.is_word : Nat := 294
abbrev F.is_small : Nat := 295
abbrev F.is_plain : Nat := 296
abbrev F.number_octets : Nat := 297
abbrev F.own_octets : Nat := 298
abbrev F.packed : Nat := 299
abbrev F.Reader___init__ : Nat := 300
abbrev F.Reader_number : Nat := 301
abbrev F.Reader_tag : Nat := 302
abbrev F.Reader_letter : Nat := 303
abbrev F.Reader_word : Nat := 304
abbrev F.Reader_simple : Nat := 305
abbrev F.Reader_thing : Nat := 306
abbrev F.opened : Nat := 307
abbrev F.unpacked : Nat := 308
abbrev F._law_seven : Nat := 309
abbrev F._law_own_octets : Nat := 310
abbrev F._law_own_sealed : Nat := 311
abbrev F._law_own_packed : Nat := 312
abbrev F._law_bytes : Nat := 313
abbrev F._law_number_at : Nat := 314
abbrev F._law_thing_at : Nat := 315
abbrev F._law_word_at : Nat := 316
abbrev F._law_row_at : Nat := 317
abbrev F._law_depth : Nat := 318
abbrev F._law_is_small : Nat := 319
abbrev F._law_due : Nat := 320
abbrev F._law_thing : Nat := 321
abbrev F._law_turned : Nat := 322
abbrev F.law_v15 : Nat := 323
abbrev F.alike_ahead : Nat := 324
abbrev F.steps_kept : Nat := 325
abbrev F.stretches_kept : Nat := 326
abbrev F.fill_v2 : Nat := 327
abbrev F.Maker_by_networks_v2 : Nat := 328
abbrev F.Maker_orders_v2 : Nat := 329
abbrev F.flag_by_v2 : Nat := 330
abbrev F.keep_v2 : Nat := 331
abbrev F.same_as_one_v2 : Nat := 332
abbrev F.distinct_v2 : Nat := 333
abbrev F.grouped_v2 : Nat := 334
abbrev F.counted_v3 : Nat := 335
abbrev F.topped_v2 : Nat := 336
abbrev F.paired : Nat := 337
abbrev F.first_of : Nat := 338
abbrev F.lengthened : Nat := 339
abbrev F.both_sides : Nat := 340
abbrev F.is_like : Nat := 341
abbrev F.carried : Nat := 342
abbrev F.numbers_of : Nat := 343
abbrev F.totals_of : Nat := 344
abbrev F.least_of : Nat := 345
abbrev F.start_deeds : Nat := 346
abbrev F.copies_deeds : Nat := 347
abbrev F.begin_deeds : Nat := 348
abbrev F.shares_of : Nat := 349
abbrev F.spread_side : Nat := 350
abbrev F.targeted : Nat := 351
abbrev F.spread_join : Nat := 352
abbrev F.looked_for_v2 : Nat := 353
abbrev F.semi_v2 : Nat := 354
abbrev F.step_needs : Nat := 355
abbrev F.field_needed : Nat := 356
abbrev F.has_join : Nat := 357
abbrev F.most_pairs : Nat := 358
abbrev F.made_cells : Nat := 359
abbrev F.networks_of : Nat := 360
abbrev F.made_by : Nat := 361
abbrev F.line_by : Nat := 362
abbrev F.line_of : Nat := 363
abbrev F._law_names : Nat := 364
abbrev F._law_wide_step : Nat := 365
abbrev F._law_wide_question : Nat := 366
abbrev F._law_answer : Nat := 367
abbrev F._law_alike_ahead : Nat := 368
abbrev F._law_longer : Nat := 369
abbrev F._law_has_join : Nat := 370
abbrev F.law_v16 : Nat := 371
abbrev F._law_needed : Nat := 372
abbrev F._law_way : Nat := 373
abbrev F._law_tree : Nat := 374
abbrev F._law_built_v3 : Nat := 375
abbrev F._law_whole : Nat := 376
abbrev F._law_all_stand : Nat := 377
abbrev F.law_v17 : Nat := 378
abbrev F._law_roomed : Nat := 379
abbrev F._law_fits : Nat := 380
abbrev F.law_v18 : Nat := 381
abbrev F.Maker___init___v2 : Nat := 382
abbrev F.gives_of : Nat := 383
abbrev F.Run___init__ : Nat := 384
abbrev F.Run_whole : Nat := 385
abbrev F.Run_keeps_for : Nat := 386
abbrev F.Run_led_on : Nat := 387
abbrev F.Run_state : Nat := 388
abbrev F.Run_notebook : Nat := 389
abbrev F.Run_place : Nat := 390
abbrev F.Run_view : Nat := 391
abbrev F.Run_offers : Nat := 392
abbrev F.Run_is_wrong : Nat := 393
abbrev F.Run_deeds : Nat := 394
abbrev F.Run_coming : Nat := 395
abbrev F.Run_next_give : Nat := 396
abbrev F.Run_with_tape : Nat := 397
abbrev F.Run_step : Nat := 398
abbrev F.Run_shown : Nat := 399
abbrev F.Run_ended : Nat := 400
abbrev F.Run_begin : Nat := 401
abbrev F.Run_done : Nat := 402
abbrev F.Run_mask : Nat := 403
abbrev F.Run_unmask : Nat := 404
abbrev F.Run_give : Nat := 405
abbrev F.Run_take : Nat := 406
abbrev F.Run_fall : Nat := 407
abbrev F.Run_content : Nat := 408
abbrev F.Run_cells : Nat := 409
abbrev F.Run_alter : Nat := 410
abbrev F.Run_empty : Nat := 411
abbrev F.Run_answer : Nat := 412
abbrev F.finished : Nat := 413
abbrev F.masked_answer : Nat := 414
abbrev F.Tape_with_key_v2 : Nat := 415
abbrev F._law_keyed : Nat := 416
abbrev F.law_v19 : Nat := 417
abbrev C.MOST_LEVELS : Nat := 0
abbrev C.PAIR : Nat := 1
abbrev C.MODULUS : Nat := 2
abbrev C.FACTOR : Nat := 3
abbrev C.STEP : Nat := 4
abbrev C.BY_EPOCH : Nat := 5
abbrev C.BY_GIVE : Nat := 6
abbrev C.BY_INDEX : Nat := 7
abbrev C.ROW : Nat := 8
abbrev C.FIRST : Nat := 9
abbrev C.SLOTS : Nat := 10
abbrev C.WAY : Nat := 11
abbrev C.SCRATCH : Nat := 12
abbrev C.OPERATIONS : Nat := 13
abbrev C.MOST_REGISTERS : Nat := 14
abbrev C.MOST_BIT : Nat := 15
abbrev C.DO : Nat := 16
abbrev C.SHAPES : Nat := 17
abbrev C.LEAF : Nat := 18
abbrev C.MERGE : Nat := 19
abbrev C.LEAF_LONG : Nat := 20
abbrev C.MERGE_LONG : Nat := 21
abbrev C.TAKE : Nat := 22
abbrev C.GIVE : Nat := 23
abbrev C.OTHER : Nat := 24
abbrev C.ASK : Nat := 25
abbrev C.ONE : Nat := 26
abbrev C.SIGN : Nat := 27
abbrev C.OUT : Nat := 28
abbrev C.LEAVING : Nat := 29
abbrev C.COMING : Nat := 30
abbrev C.FILL_AHEAD : Nat := 31
abbrev C.FILL_EACH : Nat := 32
abbrev C.REFUSED : Nat := 33
abbrev C.STOPPED : Nat := 34
abbrev C.END : Nat := 35
abbrev C.FELL : Nat := 36
abbrev C.WOKE : Nat := 37
abbrev C.FILLING : Nat := 38
abbrev C.TELL : Nat := 39
abbrev C.WRITING : Nat := 40
abbrev C.MOST_CELLS : Nat := 41
abbrev C.TWO : Nat := 42
abbrev C.FLAG : Nat := 43
abbrev C.PLACE : Nat := 44
abbrev C.MADE : Nat := 45
abbrev C.KEPT : Nat := 46
abbrev C.KEY : Nat := 47
abbrev C.SOURCE : Nat := 48
abbrev C.HELD : Nat := 49
abbrev C.HAS : Nat := 50
abbrev C.WORK : Nat := 51
abbrev C.counted_compiler : Nat := 52
abbrev C.counted_dowords : Nat := 53
abbrev C.LETTERS : Nat := 54
abbrev C.GROUP : Nat := 55
abbrev C.HALF : Nat := 56
abbrev C.CHECK : Nat := 57
abbrev C.MARK : Nat := 58
abbrev C.NONE : Nat := 59
abbrev C.FALSE : Nat := 60
abbrev C.TRUE : Nat := 61
abbrev C.NUMBER : Nat := 62
abbrev C.LESS : Nat := 63
abbrev C.WORD : Nat := 64
abbrev C.LEAST : Nat := 65
abbrev C.MOST_OCTETS : Nat := 66
abbrev C.MOST_LETTERS : Nat := 67
abbrev C.MOST_DEEP : Nat := 68
abbrev C.SIMPLE : Nat := 69
abbrev C.ONE_builders : Nat := 70
abbrev C.SIGN_builders : Nat := 71
abbrev C.LEAST_WIDTH : Nat := 72
abbrev C.ONE_compiler : Nat := 73
abbrev C.SIGN_compiler : Nat := 74
abbrev C.WAYS : Nat := 75
abbrev C.MOST_PAIRS : Nat := 76
abbrev C.MANY : Nat := 77
abbrev C.ITS : Nat := 78
abbrev C.COPIES : Nat := 79
abbrev C.BEGIN : Nat := 80
abbrev C.START : Nat := 81
abbrev C.NEAR : Nat := 82
abbrev C.SPARE : Nat := 83
abbrev C.TELLS : Nat := 84
abbrev C.SPREAD : Nat := 85
abbrev C.SEMIS : Nat := 86
abbrev C.WIDEST : Nat := 87
abbrev C.LONG : Nat := 88
abbrev C.MOST_PLACES : Nat := 89
abbrev C.MOST_CELLS_builders : Nat := 90
abbrev C.MOST_CELLS_lines : Nat := 91
abbrev C.OPEN : Nat := 92
abbrev C.DONE : Nat := 93
abbrev K.Tape : Nat := 0
abbrev K.Room : Nat := 1
abbrev K.PlainRun : Nat := 2
abbrev K.Walker : Nat := 3
abbrev K.Leans : Nat := 4
abbrev K.Maker : Nat := 5
abbrev K.Reader : Nat := 6
abbrev K.Run : Nat := 7
abbrev M.__eq__ : Nat := 0
abbrev M.first : Nat := 1
abbrev M.signs : Nat := 2
abbrev M.key : Nat := 3
abbrev M.p : Nat := 4
abbrev M.width : Nat := 5
abbrev M.copied : Nat := 6
abbrev M.with_key : Nat := 7
abbrev M.with_signs : Nat := 8
abbrev M.changes : Nat := 9
abbrev M.lot : Nat := 10
abbrev M.free : Nat := 11
abbrev M.left : Nat := 12
abbrev M.is_done : Nat := 13
abbrev M.place : Nat := 14
abbrev M.step : Nat := 15
abbrev M.begin : Nat := 16
abbrev M.do : Nat := 17
abbrev M.fall : Nat := 18
abbrev M.cells : Nat := 19
abbrev M.answer : Nat := 20
abbrev M.is_over : Nat := 21
abbrev M.skip : Nat := 22
abbrev M.next_seen : Nat := 23
abbrev M.may_come : Nat := 24
abbrev M.moment : Nat := 25
abbrev M.go : Nat := 26
abbrev M.mix : Nat := 27
abbrev M.room : Nat := 28
abbrev M.by_networks : Nat := 29
abbrev M.orders : Nat := 30
abbrev M.put : Nat := 31
abbrev M.alike : Nat := 32
abbrev M.together : Nat := 33
abbrev M.ordered : Nat := 34
abbrev M.led : Nat := 35
abbrev M.have : Nat := 36
abbrev M.whole_line : Nat := 37
abbrev M.number : Nat := 38
abbrev M.tag : Nat := 39
abbrev M.letter : Nat := 40
abbrev M.word : Nat := 41
abbrev M.simple : Nat := 42
abbrev M.thing : Nat := 43
abbrev M.whole : Nat := 44
abbrev M.keeps_for : Nat := 45
abbrev M.led_on : Nat := 46
abbrev M.state : Nat := 47
abbrev M.notebook : Nat := 48
abbrev M.view : Nat := 49
abbrev M.offers : Nat := 50
abbrev M.is_wrong : Nat := 51
abbrev M.deeds : Nat := 52
abbrev M.coming : Nat := 53
abbrev M.next_give : Nat := 54
abbrev M.with_tape : Nat := 55
abbrev M.shown : Nat := 56
abbrev M.ended : Nat := 57
abbrev M.done : Nat := 58
abbrev M.mask : Nat := 59
abbrev M.unmask : Nat := 60
abbrev M.give : Nat := 61
abbrev M.take : Nat := 62
abbrev M.content : Nat := 63
abbrev M.alter : Nat := 64
abbrev M.empty : Nat := 65
end EV
end
section
set_option maxRecDepth 100000
set_option autoImplicit false
/-! walking: what runs do, in general -/
namespace EV
open PySem L2
theorem run_eq {pg : Pg} {f : Nat} {df : Df} (hf : pg.defs[f]? = some df) (J : Nat) {xs : List EV.D} (hn : xs.length = df.np) (B : Nat) (S : Sto) :
    run pg (J + 1) f xs B S = (excs ⟨run pg J, pg.con, pg.mth, pg.ini⟩ (if df.drop = true then S.length else B) df.body (xs.map some ++ List.replicate (df.n - df.np) none) S).bind fun
      | .nx _ S' => fin df.drop S.length .non S'
      | .rt d S' => fin df.drop S.length d S'
      | _ => none := by
  simp only [run, hf]
  exact (if_pos hn).trans rfl
/-- a def that hands back a value -/
theorem run_d {pg : Pg} {f n np : Nat} {body : Sms} (hf : pg.defs[f]? = some ⟨n, np, true, body⟩) {J : Nat} {xs : List EV.D} {B : Nat} {S : Sto} {d d' : EV.D} {S' S'' : Sto} (hn : xs.length = np)
    (h : excs ⟨run pg J, pg.con, pg.mth, pg.ini⟩ S.length body (xs.map some ++ List.replicate (n - np) none) S = some (.rt d S')) (hfin : fin true S.length d S' = some (d', S'')) : run pg (J + 1) f xs B S = some (d', S'') := by
  rw [run_eq hf J hn]
  simp only [if_true]
  rw [h]
  exact hfin
theorem run_nx {pg : Pg} {f n np : Nat} {body : Sms} (hf : pg.defs[f]? = some ⟨n, np, true, body⟩) {J : Nat} {xs : List EV.D} {B : Nat} {S : Sto} {ρ : En} {S' : Sto} (hn : xs.length = np)
    (h : excs ⟨run pg J, pg.con, pg.mth, pg.ini⟩ S.length body (xs.map some ++ List.replicate (n - np) none) S = some (.nx ρ S')) : run pg (J + 1) f xs B S = some (.non, S'.take S.length) := by
  rw [run_eq hf J hn]
  simp only [if_true]
  rw [h]
  rfl
theorem fin_val {B : Nat} {d : EV.D} {S' S : Sto} (h : d.under B = true) (hs : S'.take B = S) : fin true B d S' = some (d, S) := by
  rw [← hs]
  cases d with
  | loc m =>
    have : m < B := by simpa [EV.D.under] using h
    simp [fin, this]
  | _ => simp [fin, h]
theorem fin_lst {B n : Nat} {xs : List EV.D} {S' S : Sto} (hn : B ≤ n) (hx : S'[n]? = some (.lst xs)) (h : EV.D.unders B xs = true) (hs : S'.take B = S) : fin true B (.loc n) S' = some (.lst xs, S) := by
  rw [← hs]
  simp only [fin, if_true]
  rw [if_neg (by omega), hx]
  simp [h]
theorem D.under0 {b : Nat} {d : EV.D} (h : d.under 0 = true) : d.under b = true := D.under_mono (Nat.zero_le b) h
theorem unders_map {α : Type} {f : α → EV.D} {b : Nat} : ∀ {xs : List α}, (∀ a ∈ xs, (f a).under b = true) → EV.D.unders b (xs.map f) = true
  | [], _ => rfl
  | x :: xs, h => by simp [EV.D.unders, h x (List.mem_cons_self ..), unders_map fun a ha => h a (List.mem_cons_of_mem _ ha)]
theorem okIn0 {b n : Nat} {d : EV.D} (h : d.under 0 = true) : okIn b n d = true := by simp [okIn, h]
theorem okIn_le {b n : Nat} {d : EV.D} (h : b ≤ n) : okIn b n d = true := by simp [okIn, h]
theorem excs_nx {c : Cl} {b : Nat} {s : Sm} {ss : Sms} {ρ ρ' : En} {S S' : Sto} {r : Option Out} (h : exc c b s ρ S = some (.nx ρ' S')) (h2 : excs c b ss ρ' S' = r) : excs c b (.cons s ss) ρ S = r := by
  rw [excs, h]
  exact h2
theorem excs_rt {c : Cl} {b : Nat} {s : Sm} {ss : Sms} {ρ : En} {S S' : Sto} {d : EV.D} (h : exc c b s ρ S = some (.rt d S')) : excs c b (.cons s ss) ρ S = some (.rt d S') := by
  rw [excs, h]
  rfl
theorem stay_nil {S S' : Sto} : stay [] S S' = true := rfl
theorem stay_self {ws : List Nat} {S : Sto} : stay ws S S = true := by simp [stay]
/-- a comprehension that maps -/
theorem comp_map {α : Type} {tg : EV.D → En → Sto → Option (En × Sto)} {tst : En → Sto → Option (Bool × Sto)} {elt : En → Sto → Option (EV.D × Sto)} {ws : List Nat} {ρ : En} {S0 S : Sto} (enc val : α → EV.D) (hst : stay ws S0 S = true) :
    ∀ (xs : List α) (acc : List EV.D), (∀ a ∈ xs, ∃ ρ', tg (enc a) ρ S = some (ρ', S) ∧ tst ρ' S = some (true, S) ∧ elt ρ' S = some (val a, S)) → acc.length + xs.length ≤ sizeLine →
      compGo tg tst elt ws S0 ρ (xs.map enc) acc S = some (acc ++ xs.map val, S)
  | [], acc, _, _ => by simp [compGo, hst]
  | a :: xs, acc, h, hl => by
    obtain ⟨ρ', h1, h2, h3⟩ := h a (List.mem_cons_self ..)
    simp only [List.length_cons] at hl
    simp only [List.map_cons, compGo, hst, if_true, h1, h2, h3, Option.bind_some]
    rw [if_pos (by omega), comp_map enc val hst xs (acc ++ [val a]) (fun b hb => h b (List.mem_cons_of_mem _ hb)) (by simp; omega)]
    simp
/-- .. that picks and maps -/
theorem comp_filter {α : Type} {tg : EV.D → En → Sto → Option (En × Sto)} {tst : En → Sto → Option (Bool × Sto)} {elt : En → Sto → Option (EV.D × Sto)} {ws : List Nat} {ρ : En} {S0 S : Sto} (enc val : α → EV.D) (p : α → Bool) (hst : stay ws S0 S = true) :
    ∀ (xs : List α) (acc : List EV.D), (∀ a ∈ xs, ∃ ρ', tg (enc a) ρ S = some (ρ', S) ∧ tst ρ' S = some (p a, S) ∧ (p a = true → elt ρ' S = some (val a, S))) → acc.length + xs.length ≤ sizeLine →
      compGo tg tst elt ws S0 ρ (xs.map enc) acc S = some (acc ++ (xs.filter p).map val, S)
  | [], acc, _, _ => by simp [compGo, hst]
  | a :: xs, acc, h, hl => by
    obtain ⟨ρ', h1, h2, h3⟩ := h a (List.mem_cons_self ..)
    simp only [List.length_cons] at hl
    simp only [List.map_cons, compGo, hst, if_true, h1, h2, Option.bind_some]
    cases hp : p a with
    | true =>
      simp only [if_true, h3 hp, Option.bind_some]
      rw [if_pos (by omega), comp_filter enc val p hst xs (acc ++ [val a]) (fun b hb => h b (List.mem_cons_of_mem _ hb)) (by simp; omega)]
      simp [hp]
    | false =>
      simp only [Bool.false_eq_true, if_false]
      rw [comp_filter enc val p hst xs acc (fun b hb => h b (List.mem_cons_of_mem _ hb)) (by omega)]
      simp [hp]
/-- .. of two loops that maps -/
theorem comp_flat {α : Type} {tg : EV.D → En → Sto → Option (En × Sto)} {tst : En → Sto → Option (Bool × Sto)} {step : List EV.D → En → Sto → Option (List EV.D × Sto)} {ws : List Nat} {ρ : En} {S0 S : Sto} (enc : α → EV.D) (val : α → List EV.D) (hst : stay ws S0 S = true) (n : Nat) :
    ∀ (xs : List α) (acc : List EV.D), (∀ a ∈ xs, ∃ ρ', tg (enc a) ρ S = some (ρ', S) ∧ tst ρ' S = some (true, S) ∧ ∀ acc : List EV.D, acc.length + (val a).length ≤ n → step acc ρ' S = some (acc ++ val a, S)) → acc.length + (xs.flatMap val).length ≤ n →
      compGoA tg tst step ws S0 ρ (xs.map enc) acc S = some (acc ++ xs.flatMap val, S)
  | [], acc, _, _ => by simp [compGoA, hst]
  | a :: xs, acc, h, hl => by
    obtain ⟨ρ', h1, h2, h3⟩ := h a (List.mem_cons_self ..)
    rw [List.flatMap_cons, List.length_append] at hl
    simp only [List.map_cons, compGoA, hst, if_true, h1, h2, Option.bind_some]
    rw [h3 acc (by omega), Option.bind_some, comp_flat enc val hst n xs (acc ++ val a) (fun b hb => h b (List.mem_cons_of_mem _ hb)) (by simp only [List.length_append]; omega)]
    simp
/-- a loop with an invariant: what has been done, what is left -/
theorem for_inv {α : Type} {tg : EV.D → En → Sto → Option (En × Sto)} {body : En → Sto → Option Out} {ws : List Nat} {S0 : Sto} (enc : α → EV.D) (I : List α → En → Sto → Prop) (hst : ∀ d ρ S, I d ρ S → stay ws S0 S = true) :
    ∀ (xs d : List α) (ρ : En) (S : Sto), I d ρ S → (∀ (e : List α) (a : α) (r : List α) (ρ : En) (S : Sto), d ++ xs = e ++ a :: r → I e ρ S → ∃ ρ' S', ((tg (enc a) ρ S).bind fun t => body t.1 t.2) = some (.nx ρ' S') ∧ I (e ++ [a]) ρ' S') →
      ∃ ρ' S', forGo tg body ws S0 (xs.map enc) ρ S = some (.nx ρ' S') ∧ I (d ++ xs) ρ' S'
  | [], d, ρ, S, h, _ => ⟨ρ, S, by simp [forGo, hst d ρ S h], by simpa using h⟩
  | a :: xs, d, ρ, S, h, hs => by
    obtain ⟨ρ1, S1, h1, h2⟩ := hs d a xs ρ S rfl h
    obtain ⟨ρ2, S2, h3, h4⟩ := for_inv enc I hst xs (d ++ [a]) ρ1 S1 h2 (fun e b r ρ S he => hs e b r ρ S (by rw [← he]; simp))
    refine ⟨ρ2, S2, ?_, by simpa using h4⟩
    simp only [List.map_cons, forGo, hst d ρ S h, if_true]
    cases ht : tg (enc a) ρ S with
    | none => rw [ht] at h1; cases h1
    | some t =>
      rw [ht, Option.bind_some] at h1
      rw [Option.bind_some, h1]
      exact h3
/-- a loop that folds -/
theorem for_fold {α σ : Type} {tg : EV.D → En → Sto → Option (En × Sto)} {body : En → Sto → Option Out} {ws : List Nat} {S0 : Sto} (enc : α → EV.D) (st : σ → α → σ) (I : σ → En → Sto → Prop) (hst : ∀ s ρ S, I s ρ S → stay ws S0 S = true) :
    ∀ (xs : List α) (s : σ) (ρ : En) (S : Sto), I s ρ S → (∀ (s : σ) (a : α) (ρ : En) (S : Sto), a ∈ xs → I s ρ S → ∃ ρ' S', ((tg (enc a) ρ S).bind fun t => body t.1 t.2) = some (.nx ρ' S') ∧ I (st s a) ρ' S') →
      ∃ ρ' S', forGo tg body ws S0 (xs.map enc) ρ S = some (.nx ρ' S') ∧ I (xs.foldl st s) ρ' S'
  | [], s, ρ, S, h, _ => ⟨ρ, S, by simp [forGo, hst s ρ S h], by simpa using h⟩
  | a :: xs, s, ρ, S, h, hs => by
    obtain ⟨ρ1, S1, h1, h2⟩ := hs s a ρ S (List.mem_cons_self ..) h
    obtain ⟨ρ2, S2, h3, h4⟩ := for_fold enc st I hst xs (st s a) ρ1 S1 h2 (fun s b ρ S hb => hs s b ρ S (List.mem_cons_of_mem _ hb))
    refine ⟨ρ2, S2, ?_, h4⟩
    simp only [List.map_cons, forGo, hst s ρ S h, if_true]
    cases ht : tg (enc a) ρ S with
    | none => rw [ht] at h1; cases h1
    | some t =>
      rw [ht, Option.bind_some] at h1
      rw [Option.bind_some, h1]
      exact h3
/-! ranges -/
theorem rangeD_eq : ∀ (n : Nat) (lo : Int), rangeD lo n = (List.range n).map fun i => EV.D.int (lo + (i : Nat))
  | 0, lo => rfl
  | n + 1, lo => by
    rw [rangeD, rangeD_eq n (lo + 1), List.range_succ_eq_map]
    simp only [List.map_cons, List.map_map, Int.natCast_zero, Int.add_zero]
    congr 1
    refine List.map_congr_left fun i _ => ?_
    simp only [Function.comp, Nat.succ_eq_add_one]
    congr 1
    omega
theorem range0 (n : Nat) : rangeD 0 n = (List.range n).map fun i => EV.D.int (i : Nat) := by
  rw [rangeD_eq]
  refine List.map_congr_left fun i _ => ?_
  simp
theorem smallZ_nat {n : Nat} (h : n < 4611686018427387904) : smallZ (n : Int) = true := by
  unfold smallZ
  rw [decide_eq_true_eq]
  omega
theorem lz_ok {xs : List EV.D} (h : xs.length ≤ sizeLine) : lz xs = some (.fl xs) := by unfold lz; rw [if_pos h]
theorem tz_ok {xs : List EV.D} (h : xs.length ≤ sizeLine) : tz xs = some (.d (.tup xs)) := by unfold tz; rw [if_pos h]
theorem blsOf_map {α : Type} (f : α → Bool) : ∀ xs : List α, blsOf (xs.map fun a => EV.D.bl (f a)) = some (xs.map f)
  | [] => rfl
  | x :: xs => by simp [blsOf, blsOf_map f xs]
theorem intsOf_map {α : Type} (f : α → Int) : ∀ xs : List α, intsOf (xs.map fun a => EV.D.int (f a)) = some (xs.map f)
  | [] => rfl
  | x :: xs => by simp [intsOf, intsOf_map f xs]
end EV
namespace EV
open PySem L2
/-! short words for what a walk meets -/
theorem dOf_d {x : EV.D} {S : Sto} : dOf (some (.d x, S)) = some (x, S) := rfl
theorem dOf_fl {xs : List EV.D} {S : Sto} : dOf (some (.fl xs, S)) = some (.lst xs, S) := rfl
theorem tOf_some {x : EV.D} {S : Sto} : tOf (some (x, S)) = (truth S x).map fun b => (b, S) := rfl
abbrev clJ (pg : Pg) (J : Nat) : Cl := ⟨run pg J, pg.con, pg.mth, pg.ini⟩
abbrev compX (c : Cl) (b : Nat) (t : Tg) (ifs : Exs) (e : Ex) (ws : List Nat) (S0 : Sto) (ρ : En) (xs acc : List EV.D) (S : Sto) : Option (List EV.D × Sto) :=
  compGo (fun d ρ S => asg c b t d ρ S) (fun ρ S => evt c b ifs ρ S) (fun ρ S => dOf (ev c b e ρ S)) ws S0 ρ xs acc S
/-- the same where the look has no conditions -/
abbrev compT (c : Cl) (b : Nat) (t : Tg) (e : Ex) (ws : List Nat) (S0 : Sto) (ρ : En) (xs acc : List EV.D) (S : Sto) : Option (List EV.D × Sto) :=
  compGo (fun d ρ S => asg c b t d ρ S) (fun _ S => some (true, S)) (fun ρ S => dOf (ev c b e ρ S)) ws S0 ρ xs acc S
abbrev comp2T (c : Cl) (b : Nat) (t : Tg) (e : Ex) (t2 : Tg) (s2 : Src) (ws : List Nat) (S0 : Sto) (ρ : En) (xs acc : List EV.D) (S : Sto) : Option (List EV.D × Sto) :=
  compGoA (fun d ρ S => asg c b t d ρ S) (fun _ S => some (true, S)) (fun acc ρ S => (evi c b s2 ρ S).bind fun w2 =>
        compGo (fun d ρ S => asg c b t2 d ρ S) (fun _ S => some (true, S)) (fun ρ S => dOf (ev c b e ρ S)) w2.1.2 w2.2 (wipeE ρ t2.slots) w2.1.1 acc w2.2) ws S0 ρ xs acc S
abbrev dcT (c : Cl) (b : Nat) (t : Tg) (k v : Ex) (ws : List Nat) (S0 : Sto) (ρ : En) (xs : List EV.D) (acc : List (Key × EV.D)) (S : Sto) : Option (List (Key × EV.D) × Sto) :=
  dcGo (fun d ρ S => asg c b t d ρ S) (fun _ S => some (true, S)) (fun ρ S => dOf (ev c b k ρ S)) (fun ρ S => dOf (ev c b v ρ S)) ws S0 ρ xs acc S
abbrev forX (c : Cl) (b : Nat) (t : Tg) (a : Sms) (ws : List Nat) (S0 : Sto) (xs : List EV.D) (ρ : En) (S : Sto) : Option Out :=
  forGo (fun d ρ S => asg c b t d ρ S) (fun ρ S => excs c b a ρ S) ws S0 xs ρ S
end EV
end
section
set_option maxRecDepth 100000
set_option autoImplicit false
/-! equality of plain values -/
namespace EV
open PySem L2
mutual
/-- whole numbers, texts, None, tuples and lists of such, not deeper than told -/
def D.fine : Nat → EV.D → Bool
  | _, .non => true
  | _, .int _ => true
  | _, .str s => PyData.strOk s
  | n + 1, .tup xs => D.fines n xs
  | n + 1, .lst xs => D.fines n xs
  | _, _ => false
def D.fines : Nat → List EV.D → Bool
  | _, [] => true
  | n, x :: xs => D.fine n x && D.fines n xs
end
mutual
theorem fine_spec : ∀ {n : Nat} {d : EV.D}, D.fine n d = true → d.pure = true ∧ PyData.canLay0 d.py = true ∧ d.py.depth ≤ n
  | n, .non, _ => ⟨rfl, by simp [EV.D.py, PyData.canLay0], by simp [EV.D.py, PyData.depth]⟩
  | n, .int i, _ => ⟨rfl, by simp [EV.D.py, PyData.canLay0], by simp [EV.D.py, PyData.depth]⟩
  | n, .str s, h => ⟨rfl, by simpa [EV.D.py, PyData.canLay0, D.fine] using h, by simp [EV.D.py, PyData.depth]⟩
  | n + 1, .tup xs, h => by
    obtain ⟨a, b, c⟩ := fines_spec (by simpa [D.fine] using h)
    exact ⟨by simpa [EV.D.pure] using a, by simpa [EV.D.py, PyData.canLay0] using b, by simpa [EV.D.py, PyData.depth] using c⟩
  | n + 1, .lst xs, h => by
    obtain ⟨a, b, c⟩ := fines_spec (by simpa [D.fine] using h)
    exact ⟨by simpa [EV.D.pure] using a, by simpa [EV.D.py, PyData.canLay0] using b, by simpa [EV.D.py, PyData.depth] using c⟩
  | 0, .tup xs, h | 0, .lst xs, h => by simp [D.fine] at h
  | n, .bl _, h | n, .ty _, h | n, .cl _, h | n, .ctup _, h | n, .slst _, h | n, .loc _, h => by cases n <;> simp [D.fine] at h
theorem fines_spec : ∀ {n : Nat} {ds : List EV.D}, D.fines n ds = true → EV.D.pures ds = true ∧ PyData.canLayAll0 (EV.D.pys ds) = true ∧ PyData.depthAll (EV.D.pys ds) ≤ n
  | n, [], _ => ⟨rfl, by simp [EV.D.pys, PyData.canLayAll0], by simp [EV.D.pys, PyData.depthAll]⟩
  | n, d :: ds, h => by
    simp only [D.fines, Bool.and_eq_true] at h
    obtain ⟨a, b, c⟩ := fine_spec h.1
    obtain ⟨a', b', c'⟩ := fines_spec h.2
    exact ⟨by simp [EV.D.pures, a, a'], by simp [EV.D.pys, PyData.canLayAll0, b, b'], by simp only [EV.D.pys, PyData.depthAll]; omega⟩
end
mutual
theorem fine_eqv : ∀ {n m : Nat} {a b : EV.D}, D.fine n a = true → D.fine m b = true → (PyData.eqv a.py b.py = true ↔ a = b)
  | n, m, .non, b, _, h => by cases b <;> cases m <;> simp_all [EV.D.py, PyData.eqv, D.fine]
  | n, m, .int i, b, _, h => by cases b <;> cases m <;> simp_all [EV.D.py, PyData.eqv, D.fine]
  | n, m, .str s, b, _, h => by cases b <;> cases m <;> simp_all [EV.D.py, PyData.eqv, D.fine]
  | n + 1, m, .tup xs, b, g, h => by
    cases b with
    | tup ys =>
      cases m with
      | zero => simp [D.fine] at h
      | succ m =>
        have := fines_eqv (by simpa [D.fine] using g) (by simpa [D.fine] using h)
        simp [EV.D.py, PyData.eqv, this]
    | _ => cases m <;> simp_all [EV.D.py, PyData.eqv, D.fine]
  | n + 1, m, .lst xs, b, g, h => by
    cases b with
    | lst ys =>
      cases m with
      | zero => simp [D.fine] at h
      | succ m =>
        have := fines_eqv (by simpa [D.fine] using g) (by simpa [D.fine] using h)
        simp [EV.D.py, PyData.eqv, this]
    | _ => cases m <;> simp_all [EV.D.py, PyData.eqv, D.fine]
  | 0, m, .tup xs, b, h, _ | 0, m, .lst xs, b, h, _ => by simp [D.fine] at h
  | n, m, .bl _, b, h, _ | n, m, .ty _, b, h, _ | n, m, .cl _, b, h, _ | n, m, .ctup _, b, h, _ | n, m, .slst _, b, h, _ | n, m, .loc _, b, h, _ => by cases n <;> simp [D.fine] at h
theorem fines_eqv : ∀ {n m : Nat} {a b : List EV.D}, D.fines n a = true → D.fines m b = true → (PyData.eqvAll (EV.D.pys a) (EV.D.pys b) = true ↔ a = b)
  | n, m, [], [], _, _ => by simp [EV.D.pys, PyData.eqvAll]
  | n, m, [], y :: ys, _, _ => by simp [EV.D.pys, PyData.eqvAll]
  | n, m, x :: xs, [], _, _ => by simp [EV.D.pys, PyData.eqvAll]
  | n, m, x :: xs, y :: ys, g, h => by
    simp only [D.fines, Bool.and_eq_true] at g h
    have h1 := fine_eqv g.1 h.1
    have h2 := fines_eqv g.2 h.2
    simp [EV.D.pys, PyData.eqvAll, h1, h2]
end
theorem pyS_fine {S : Sto} {n : Nat} {d : EV.D} (h : D.fine n d = true) : pyS S d = some d.py := by
  have hp := (fine_spec h).1
  cases d with
  | loc m => cases n <;> simp [D.fine] at h
  | _ => simp only [pyS, hp, if_true]
theorem eqD_fine {S : Sto} {n : Nat} {a b : EV.D} (hn : n ≤ 64) (ha : D.fine n a = true) (hb : D.fine n b = true) : eqD S a b = some (decide (a = b)) := by
  have sa : SeqAt.shaped a.py = true := by
    obtain ⟨_, h1, h2⟩ := fine_spec ha
    simp only [SeqAt.shaped, Bool.and_eq_true, decide_eq_true_eq]
    exact ⟨h1, by omega⟩
  have sb : SeqAt.shaped b.py = true := by
    obtain ⟨_, h1, h2⟩ := fine_spec hb
    simp only [SeqAt.shaped, Bool.and_eq_true, decide_eq_true_eq]
    exact ⟨h1, by omega⟩
  unfold eqD
  rw [pyS_fine ha, pyS_fine hb]
  simp only
  rw [if_pos ⟨sa, sb⟩]
  congr 1
  rw [Bool.eq_iff_iff, decide_eq_true_iff]
  exact fine_eqv ha hb
theorem fines_iff {n : Nat} : ∀ {ds : List EV.D}, D.fines n ds = true ↔ ∀ d ∈ ds, D.fine n d = true
  | [] => by simp [D.fines]
  | d :: ds => by simp [D.fines, fines_iff (ds := ds)]
theorem fines_map {α : Type} {f : α → EV.D} {n : Nat} {xs : List α} (h : ∀ a ∈ xs, D.fine n (f a) = true) : D.fines n (xs.map f) = true := by
  rw [fines_iff]
  intro d hd
  obtain ⟨a, ha, rfl⟩ := List.mem_map.1 hd
  exact h a ha
mutual
theorem fine_under : ∀ {n : Nat} {d : EV.D} (b : Nat), D.fine n d = true → d.under b = true
  | n, .non, b, _ | n, .int i, b, _ | n, .str s, b, _ => rfl
  | n + 1, .tup xs, b, h | n + 1, .lst xs, b, h => fines_under b (by simpa [D.fine] using h)
  | 0, .tup xs, b, h | 0, .lst xs, b, h => by simp [D.fine] at h
  | n, .bl _, b, h | n, .ty _, b, h | n, .cl _, b, h | n, .ctup _, b, h | n, .slst _, b, h | n, .loc _, b, h => by cases n <;> simp [D.fine] at h
theorem fines_under : ∀ {n : Nat} {ds : List EV.D} (b : Nat), D.fines n ds = true → EV.D.unders b ds = true
  | n, [], b, _ => rfl
  | n, d :: ds, b, h => by
    simp only [D.fines, Bool.and_eq_true] at h
    simp [EV.D.unders, fine_under b h.1, fines_under b h.2]
end
mutual
theorem fine_mono : ∀ {n m : Nat} {d : EV.D}, n ≤ m → D.fine n d = true → D.fine m d = true
  | n, m, .non, _, _ => by cases m <;> rfl
  | n, m, .int i, _, _ => by cases m <;> rfl
  | n, m, .str s, _, h => by cases m <;> (cases n <;> simpa [D.fine] using h)
  | n + 1, m + 1, .tup xs, hl, h => by simpa [D.fine] using fines_mono (n := n) (m := m) (by omega) (by simpa [D.fine] using h)
  | n + 1, m + 1, .lst xs, hl, h => by simpa [D.fine] using fines_mono (n := n) (m := m) (by omega) (by simpa [D.fine] using h)
  | n + 1, 0, .tup xs, hl, h | n + 1, 0, .lst xs, hl, h => by omega
  | 0, m, .tup xs, _, h | 0, m, .lst xs, _, h => by simp [D.fine] at h
  | n, m, .bl _, _, h | n, m, .ty _, _, h | n, m, .cl _, _, h | n, m, .ctup _, _, h | n, m, .slst _, _, h | n, m, .loc _, _, h => by cases n <;> simp [D.fine] at h
theorem fines_mono : ∀ {n m : Nat} {ds : List EV.D}, n ≤ m → D.fines n ds = true → D.fines m ds = true
  | n, m, [], _, _ => rfl
  | n, m, d :: ds, hl, h => by
    simp only [D.fines, Bool.and_eq_true] at h ⊢
    exact ⟨fine_mono hl h.1, fines_mono hl h.2⟩
end
mutual
theorem alk_fine : ∀ {n : Nat} {d : EV.D}, D.fine n d = true → Alk d d
  | n, .non, _ => .non
  | n, .int i, _ => .int i
  | n, .str s, h => .str s (by cases n <;> simpa [D.fine] using h)
  | n + 1, .tup xs, h => .tup xs xs rfl (alks_fine (by simpa [D.fine] using h))
  | n + 1, .lst xs, h => .lst xs xs rfl (alks_fine (by simpa [D.fine] using h))
  | 0, .tup xs, h | 0, .lst xs, h => by simp [D.fine] at h
  | n, .bl _, h | n, .ty _, h | n, .cl _, h | n, .ctup _, h | n, .slst _, h | n, .loc _, h => by cases n <;> simp [D.fine] at h
theorem alks_fine : ∀ {n : Nat} {ds : List EV.D}, D.fines n ds = true → ∀ p ∈ ds.zip ds, Alk p.1 p.2
  | n, [], _ => by simp
  | n, d :: ds, h => by
    simp only [D.fines, Bool.and_eq_true] at h
    intro p hp
    rw [List.zip_cons_cons] at hp
    rcases List.mem_cons.1 hp with rfl | hp
    · exact alk_fine h.1
    · exact alks_fine h.2 p hp
end
end EV
end
section
set_option maxRecDepth 100000
set_option autoImplicit false
namespace EV
open PySem L2
/-- is_integer -/
def B_is_integer (x : Ix) : Sms := (.cons (.ret (.and (.bf .isinst (.cons (.var 0) (.cons (.cst (.ty "int")) .nil))) (.not (.bf .isinst (.cons (.var 0) (.cons (.cst (.ty "bool")) .nil))))))
  .nil)
abbrev Df_is_integer (x : Ix) : Df := ⟨1, 1, true, B_is_integer x⟩
/-- is_within -/
def B_is_within (x : Ix) : Sms := (.cons (.ret (.and (.call (x.f F.is_integer) (.cons (.var 0) .nil)) (.cmp2 .LtE .LtE (.var 1) (.var 0) (.var 2))))
  .nil)
abbrev Df_is_within (x : Ix) : Df := ⟨3, 3, true, B_is_within x⟩
/-- is_pair -/
def B_is_pair (x : Ix) : Sms := (.cons (.iff (.or (.not (.bf .isinst (.cons (.var 1) (.cons (.cst (.ty "tuple")) .nil)))) (.or (.cmp .NotEq (.bf .len (.cons (.var 1) .nil)) (.con (x.c C.PAIR))) (.not (.call (x.f F.is_within) (.cons (.ix (.var 1) (.cst (.int 0))) (.cons (.cst (.int 0)) (.cons (.bin .Sub (.var 0) (.cst (.int 1))) .nil)))))))
  (.cons (.ret (.cst (.bl false)))
  .nil)
  .nil)
  (.cons (.ret (.call (x.f F.is_within) (.cons (.ix (.var 1) (.cst (.int 1))) (.cons (.bin .Add (.ix (.var 1) (.cst (.int 0))) (.cst (.int 1))) (.cons (.bin .Sub (.var 0) (.cst (.int 1))) .nil)))))
  .nil))
abbrev Df_is_pair (x : Ix) : Df := ⟨2, 2, true, B_is_pair x⟩
def is_level_k1 (x : Ix) : Ex := (.var 4)
def is_level_v2 (x : Ix) : Ex := (.cst (.bl true))
def is_level_t3 (x : Ix) : Tg := (.nm 4)
def is_level_e4 (x : Ix) : Ex := (.var 4)
def is_level_t5 (x : Ix) : Tg := (.nm 3)
def is_level_t6 (x : Ix) : Tg := (.nm 4)
def is_level_s7 (x : Ix) : Src := (.ex (.var 3))
def is_level_e8 (x : Ix) : Ex := (.call (x.f F.is_pair) (.cons (.var 0) (.cons (.var 3) .nil)))
def is_level_t9 (x : Ix) : Tg := (.nm 3)
/-- is_level -/
def B_is_level (x : Ix) : Sms := (.cons (.iff (.or (.not (.bf .isinst (.cons (.var 1) (.cons (.cst (.ty "tuple")) .nil)))) (.not (.bf .all (.cons (.comp (is_level_e8 x) [3] (is_level_t9 x) (.ex (.var 1)) .nil) .nil))))
  (.cons (.ret (.cst (.bl false)))
  .nil)
  .nil)
  (.cons (.set (.nm 2) (.comp2 (is_level_e4 x) [3, 4] (is_level_t5 x) (.ex (.var 1)) .nil (is_level_t6 x) (is_level_s7 x) .nil))
  (.cons (.ret (.and (.cmp .Eq (.bf .len (.cons (.new (.dcomp (is_level_k1 x) (is_level_v2 x) [4] (is_level_t3 x) (.ex (.var 2)) .nil)) .nil)) (.bf .len (.cons (.var 2) .nil))) (.cmp .Eq (.bf .list (.cons (.var 1) .nil)) (.bf .sorted (.cons (.var 1) .nil)))))
  .nil)))
abbrev Df_is_level (x : Ix) : Df := ⟨5, 2, true, B_is_level x⟩
def is_network_e1 (x : Ix) : Ex := (.call (x.f F.is_level) (.cons (.var 0) (.cons (.var 2) .nil)))
def is_network_t2 (x : Ix) : Tg := (.nm 2)
/-- is_network -/
def B_is_network (x : Ix) : Sms := (.cons (.iff (.or (.not (.bf .isinst (.cons (.var 1) (.cons (.cst (.ty "tuple")) .nil)))) (.cmp .Gt (.bf .len (.cons (.var 1) .nil)) (.con (x.c C.MOST_LEVELS))))
  (.cons (.ret (.cst (.bl false)))
  .nil)
  .nil)
  (.cons (.ret (.bf .all (.cons (.comp (is_network_e1 x) [2] (is_network_t2 x) (.ex (.var 1)) .nil) .nil)))
  .nil))
abbrev Df_is_network (x : Ix) : Df := ⟨3, 2, true, B_is_network x⟩
def level_done_t1 (x : Ix) : Tg := (.tup (.cons (.nm 3) (.cons (.nm 4) .nil)))
def level_done_b2 (x : Ix) : Sms := (.cons (.iff (.cmp .Lt (.ix (.var 2) (.var 4)) (.ix (.var 2) (.var 3)))
  (.cons (.set (.tup (.cons (.ix (.var 2) (.var 3)) (.cons (.ix (.var 2) (.var 4)) .nil))) (.tup (.cons (.ix (.var 2) (.var 4)) (.cons (.ix (.var 2) (.var 3)) .nil))))
  .nil)
  .nil)
  .nil)
/-- level_done -/
def B_level_done (x : Ix) : Sms := (.cons (.set (.nm 2) (.new (.bf .list (.cons (.var 1) .nil))))
  (.cons (.for (level_done_t1 x) (.ex (.var 0))
  (level_done_b2 x))
  (.cons (.ret (.var 2))
  .nil)))
abbrev Df_level_done (x : Ix) : Df := ⟨5, 2, true, B_level_done x⟩
def done_t1 (x : Ix) : Tg := (.nm 3)
def done_b2 (x : Ix) : Sms := (.cons (.set (.nm 2) (.call (x.f F.level_done) (.cons (.var 3) (.cons (.var 2) .nil))))
  .nil)
/-- done -/
def B_done (x : Ix) : Sms := (.cons (.set (.nm 2) (.bf .list (.cons (.var 1) .nil)))
  (.cons (.for (done_t1 x) (.ex (.var 0))
  (done_b2 x))
  (.cons (.ret (.bf .tuple (.cons (.var 2) .nil)))
  .nil)))
abbrev Df_done (x : Ix) : Df := ⟨4, 2, true, B_done x⟩
def pairs_of_e1 (x : Ix) : Ex := (.var 2)
def pairs_of_t2 (x : Ix) : Tg := (.nm 1)
def pairs_of_t3 (x : Ix) : Tg := (.nm 2)
def pairs_of_s4 (x : Ix) : Src := (.ex (.var 1))
/-- pairs_of -/
def B_pairs_of (x : Ix) : Sms := (.cons (.ret (.bf .tuple (.cons (.comp2 (pairs_of_e1 x) [1, 2] (pairs_of_t2 x) (.ex (.var 0)) .nil (pairs_of_t3 x) (pairs_of_s4 x) .nil) .nil)))
  .nil)
abbrev Df_pairs_of (x : Ix) : Df := ⟨3, 1, true, B_pairs_of x⟩
def levelled_e1 (x : Ix) : Ex := (.bf .tuple (.cons (.bf .sorted (.cons (.var 6) .nil)) .nil))
def levelled_t2 (x : Ix) : Tg := (.nm 6)
def levelled_t3 (x : Ix) : Tg := (.tup (.cons (.nm 3) (.cons (.nm 4) .nil)))
def levelled_b4 (x : Ix) : Sms := (.cons (.set (.nm 5) (.bf .max (.cons (.bm .get (.var 1) (.cons (.var 3) (.cons (.cst (.int 0)) .nil))) (.cons (.bm .get (.var 1) (.cons (.var 4) (.cons (.cst (.int 0)) .nil))) .nil))))
  (.cons (.iff (.cmp .Eq (.var 5) (.bf .len (.cons (.var 2) .nil)))
  (.cons (.ex (.bm .append (.var 2) (.cons (.new (.lst .nil)) .nil)))
  .nil)
  .nil)
  (.cons (.ex (.bm .append (.ix (.var 2) (.var 5)) (.cons (.tup (.cons (.var 3) (.cons (.var 4) .nil))) .nil)))
  (.cons (.set (.tup (.cons (.ix (.var 1) (.var 3)) (.cons (.ix (.var 1) (.var 4)) .nil))) (.tup (.cons (.bin .Add (.var 5) (.cst (.int 1))) (.cons (.bin .Add (.var 5) (.cst (.int 1))) .nil))))
  .nil))))
/-- levelled -/
def B_levelled (x : Ix) : Sms := (.cons (.par [1, 2] (.cons (.new .emK) (.cons (.new (.lst .nil)) .nil)))
  (.cons (.for (levelled_t3 x) (.ex (.var 0))
  (levelled_b4 x))
  (.cons (.ret (.bf .tuple (.cons (.comp (levelled_e1 x) [6] (levelled_t2 x) (.ex (.var 2)) .nil) .nil)))
  .nil)))
abbrev Df_levelled (x : Ix) : Df := ⟨7, 1, true, B_levelled x⟩
def neighbours_e1 (x : Ix) : Ex := (.tup (.cons (.var 2) (.cons (.bin .Add (.var 2) (.cst (.int 1))) .nil)))
def neighbours_t2 (x : Ix) : Tg := (.nm 2)
def neighbours_s3 (x : Ix) : Src := (.rng (.cons (.bin .Mod (.var 1) (.cst (.int 2))) (.cons (.bin .Sub (.var 0) (.cst (.int 1))) (.cons (.cst (.int 2)) .nil))))
def neighbours_e4 (x : Ix) : Ex := (.bf .tuple (.cons (.comp (neighbours_e1 x) [2] (neighbours_t2 x) (neighbours_s3 x) .nil) .nil))
def neighbours_t5 (x : Ix) : Tg := (.nm 1)
def neighbours_s6 (x : Ix) : Src := (.rng (.cons (.var 0) .nil))
/-- neighbours -/
def B_neighbours (x : Ix) : Sms := (.cons (.ret (.bf .tuple (.cons (.comp (neighbours_e4 x) [1] (neighbours_t5 x) (neighbours_s6 x) .nil) .nil)))
  .nil)
abbrev Df_neighbours (x : Ix) : Df := ⟨3, 1, true, B_neighbours x⟩
/-- merging -/
def B_merging (x : Ix) : Sms := (.cons (.iff (.or (.cmp .Eq (.var 0) (.lst .nil)) (.cmp .Eq (.var 1) (.lst .nil)))
  (.cons (.ret (.lst .nil))
  .nil)
  .nil)
  (.cons (.iff (.and (.cmp .Eq (.bf .len (.cons (.var 0) .nil)) (.cst (.int 1))) (.cmp .Eq (.bf .len (.cons (.var 1) .nil)) (.cst (.int 1))))
  (.cons (.ret (.lst (.cons (.tup (.cons (.ix (.var 0) (.cst (.int 0))) (.cons (.ix (.var 1) (.cst (.int 0))) .nil))) .nil)))
  .nil)
  .nil)
  (.cons (.set (.nm 2) (.bin .Add (.call (x.f F.merging) (.cons (.sl (.var 0) .no .no .by2) (.cons (.sl (.var 1) .no .no .by2) .nil))) (.call (x.f F.merging) (.cons (.sl (.var 0) (.so (.cst (.int 1))) .no .by2) (.cons (.sl (.var 1) (.so (.cst (.int 1))) .no .by2) .nil)))))
  (.cons (.set (.nm 3) (.bin .Add (.var 0) (.var 1)))
  (.cons (.ret (.bin .Add (.var 2) (.bfi .list (.zip (.cons (.sl (.var 3) (.so (.cst (.int 1))) .no .by2) (.cons (.sl (.var 3) (.so (.cst (.int 2))) .no .by2) .nil))))))
  .nil)))))
abbrev Df_merging (x : Ix) : Df := ⟨4, 2, true, B_merging x⟩
def side_by_side_t1 (x : Ix) : Tg := (.nm 3)
def side_by_side_s2 (x : Ix) : Src := (.rng (.cons (.bf .max (.cons (.bf .len (.cons (.var 0) .nil)) (.cons (.bf .len (.cons (.var 1) .nil)) .nil))) .nil))
def side_by_side_x3 (x : Ix) : Ex := (.ite (.cmp .Lt (.var 3) (.bf .len (.cons (.var 1) .nil))) (.ix (.var 1) (.var 3)) (.tup .nil))
def side_by_side_x4 (x : Ix) : Ex := (.ite (.cmp .Lt (.var 3) (.bf .len (.cons (.var 0) .nil))) (.ix (.var 0) (.var 3)) (.tup .nil))
def side_by_side_b5 (x : Ix) : Sms := (.cons (.set (.nm 4) (.lst (.star (side_by_side_x4 x) (.star (side_by_side_x3 x) .nil))))
  (.cons (.ex (.bm .append (.var 2) (.cons (.bf .tuple (.cons (.bf .sorted (.cons (.var 4) .nil)) .nil)) .nil)))
  .nil))
/-- side_by_side -/
def B_side_by_side (x : Ix) : Sms := (.cons (.set (.nm 2) (.new (.lst .nil)))
  (.cons (.for (side_by_side_t1 x) (side_by_side_s2 x)
  (side_by_side_b5 x))
  (.cons (.ret (.var 2))
  .nil)))
abbrev Df_side_by_side (x : Ix) : Df := ⟨5, 2, true, B_side_by_side x⟩
/-- ordering -/
def B_ordering (x : Ix) : Sms := (.cons (.iff (.cmp .Lt (.bf .len (.cons (.var 0) .nil)) (.con (x.c C.PAIR)))
  (.cons (.ret (.lst .nil))
  .nil)
  .nil)
  (.cons (.set (.nm 1) (.bin .FloorDiv (.bf .len (.cons (.var 0) .nil)) (.cst (.int 2))))
  (.cons (.par [2, 3] (.cons (.sl (.var 0) .no (.so (.var 1)) .one) (.cons (.sl (.var 0) (.so (.var 1)) .no .one) .nil)))
  (.cons (.ret (.bin .Add (.call (x.f F.side_by_side) (.cons (.call (x.f F.ordering) (.cons (.var 2) .nil)) (.cons (.call (x.f F.ordering) (.cons (.var 3) .nil)) .nil))) (.bf .list (.cons (.call (x.f F.levelled) (.cons (.call (x.f F.merging) (.cons (.var 2) (.cons (.var 3) .nil))) .nil)) .nil))))
  .nil))))
abbrev Df_ordering (x : Ix) : Df := ⟨4, 1, true, B_ordering x⟩
def odd_even_s1 (x : Ix) : Src := (.rng (.cons (.var 0) .nil))
/-- odd_even -/
def B_odd_even (x : Ix) : Sms := (.cons (.ret (.bf .tuple (.cons (.call (x.f F.ordering) (.cons (.bfi .list (odd_even_s1 x)) .nil)) .nil)))
  .nil)
abbrev Df_odd_even (x : Ix) : Df := ⟨1, 1, true, B_odd_even x⟩
def order_cost_e1 (x : Ix) : Ex := (.bf .len (.cons (.var 2) .nil))
def order_cost_t2 (x : Ix) : Tg := (.nm 2)
def order_cost_x3 (x : Ix) : Ex := (.ite (.cmp .Gt (.var 0) (.cst (.int 0))) (.call (x.f F.odd_even) (.cons (.var 0) .nil)) (.tup .nil))
/-- order_cost -/
def B_order_cost (x : Ix) : Sms := (.cons (.set (.nm 1) (order_cost_x3 x))
  (.cons (.ret (.tup (.cons (.bf .len (.cons (.var 1) .nil)) (.cons (.bin .Mult (.var 0) (.bf .len (.cons (.var 1) .nil))) (.cons (.bin .Mult (.var 0) (.bf .len (.cons (.var 1) .nil))) (.cons (.bf .sum (.cons (.comp (order_cost_e1 x) [2] (order_cost_t2 x) (.ex (.var 1)) .nil) .nil)) .nil))))))
  .nil))
abbrev Df_order_cost (x : Ix) : Df := ⟨3, 1, true, B_order_cost x⟩
end EV
end
section
/-! networks of comparators, in plain Lean: no model in sight -/
namespace Nw
/-- one comparator: the smaller thing goes to the first place -/
def step {α : Type} (lt : α → α → Bool) (l : List α) (p : Nat × Nat) : List α := match l[p.1]?, l[p.2]? with
  | some x, some y => if lt y x = true then (l.set p.1 y).set p.2 x else l
  | _, _ => l
def runs {α : Type} (lt : α → α → Bool) (ps : List (Nat × Nat)) (l : List α) : List α := ps.foldl (step lt) l
def ltB (a b : Bool) : Bool := !a && b
section
variable {α : Type} {lt : α → α → Bool}
theorem step_len (l : List α) (p : Nat × Nat) : (step lt l p).length = l.length := by
  unfold step
  split
  · split <;> simp
  · rfl
theorem runs_len (ps : List (Nat × Nat)) : ∀ l : List α, (runs lt ps l).length = l.length := by
  induction ps with
  | nil => intro l; rfl
  | cons p ps ih => intro l; show (runs lt ps (step lt l p)).length = _; rw [ih, step_len]
theorem set_same {l : List α} {n : Nat} {x : α} (h : l[n]? = some x) : l.set n x = l := by
  refine List.ext_getElem? fun i => ?_
  by_cases hi : n = i
  · subst hi; rw [List.getElem?_set_self (List.getElem?_eq_some_iff.mp h).1, h]
  · rw [List.getElem?_set_ne hi]
/-- comparators and thresholds go either way round -/
theorem step_map (f : α → Bool) (hf : ∀ x y, lt y x = true → (f y = true → f x = true)) (hg : ∀ x y, lt y x = false → (f x = true → f y = true)) (l : List α) (p : Nat × Nat) : step ltB (l.map f) p = (step lt l p).map f := by
  unfold step
  rw [List.getElem?_map, List.getElem?_map]
  cases h1 : l[p.1]? with
  | none => simp
  | some x => cases h2 : l[p.2]? with
    | none => simp
    | some y =>
      simp only [Option.map_some]
      cases hl : lt y x with
      | true =>
        simp only [if_true, List.map_set]
        cases hy : f y with
        | true =>
          have hx := hf x y hl hy
          rw [hx]
          simp only [ltB, Bool.not_true, Bool.false_and, Bool.false_eq_true, if_false]
          rw [set_same (l := (l.map f)) (n := p.1) (by rw [List.getElem?_map, h1]; simp [hx]), set_same (by rw [List.getElem?_map, h2]; simp [hy])]
        | false =>
          cases hx : f x with
          | true => simp [ltB]
          | false =>
            simp only [ltB, Bool.not_false, Bool.and_false, Bool.false_eq_true, if_false]
            rw [set_same (l := (l.map f)) (n := p.1) (by rw [List.getElem?_map, h1]; simp [hx]), set_same (by rw [List.getElem?_map, h2]; simp [hy])]
      | false =>
        simp only [Bool.false_eq_true, if_false]
        have := hg x y hl
        cases hx : f x with
        | true => rw [this hx]; simp [ltB]
        | false => simp [ltB, hx]
theorem runs_map (f : α → Bool) (hf : ∀ x y, lt y x = true → (f y = true → f x = true)) (hg : ∀ x y, lt y x = false → (f x = true → f y = true)) (ps : List (Nat × Nat)) : ∀ l : List α, runs ltB ps (l.map f) = (runs lt ps l).map f := by
  induction ps with
  | nil => intro l; rfl
  | cons p ps ih => intro l; show runs ltB ps (step ltB (l.map f) p) = (runs lt ps (step lt l p)).map f; rw [step_map f hf hg, ih]
/-- what comes out is what went in, in another order -/
theorem step_perm (l : List α) (p : Nat × Nat) : (step lt l p).Perm l := by
  unfold step
  split
  · rename_i x y h1 h2
    split
    · obtain ⟨l1, e1⟩ := List.getElem?_eq_some_iff.mp h1
      obtain ⟨l2, e2⟩ := List.getElem?_eq_some_iff.mp h2
      rw [← e1, ← e2]
      exact List.set_set_perm l1 l2
    · exact List.Perm.refl _
  · exact List.Perm.refl _
theorem runs_perm (ps : List (Nat × Nat)) : ∀ l : List α, (runs lt ps l).Perm l := by
  induction ps with
  | nil => exact fun l => List.Perm.refl _
  | cons p ps ih => exact fun l => (ih _).trans (step_perm l p)
/-- sorted: no later thing is smaller -/
def Srt (lt : α → α → Bool) (l : List α) : Prop := ∀ (i j : Nat) (x y : α), i < j → l[i]? = some x → l[j]? = some y → lt y x = false
/-- by thresholds -/
theorem srt_of {l : List α} (h : ∀ t : α, Srt ltB (l.map fun x => lt t x)) (irr : ∀ x, lt x x = false) : Srt lt l := by
  intro i j x y hij h1 h2
  have := h y i j (lt y x) (lt y y) hij (by rw [List.getElem?_map, h1]; rfl) (by rw [List.getElem?_map, h2]; rfl)
  rw [irr y] at this
  simpa [ltB] using this
/-- a strict weak order, as comparators need it -/
structure Ord (lt : α → α → Bool) : Prop where
  irr : ∀ x, lt x x = false
  tr : ∀ x y z, lt x y = true → lt y z = true → lt x z = true
  co : ∀ x y z, lt x y = false → lt y z = false → lt x z = false
/-- the 0-1 principle, one list at a time -/
theorem zero_one (o : Ord lt) (ps : List (Nat × Nat)) (l : List α) (h : ∀ t : α, Srt ltB (runs ltB ps (l.map fun x => lt t x))) : Srt lt (runs lt ps l) := by
  refine srt_of (fun t => ?_) o.irr
  rw [← runs_map (fun x => lt t x)]
  · exact h t
  · intro x y hyx hty
    exact o.tr t y x hty hyx
  · intro x y hyx htx
    cases hty : lt t y with
    | true => rfl
    | false => rw [o.co t y x hty hyx] at htx; cases htx
end
end Nw
end
section
/-! neighbours: as many levels as places put any row in order -/
namespace Nw
def br0 : List Bool → List Bool
  | x :: y :: l => (x && y) :: (x || y) :: br0 l
  | l => l
def br (t : Nat) (l : List Bool) : List Bool := if t % 2 = 0 then br0 l else match l with
  | x :: l => x :: br0 l
  | [] => []
abbrev ct (l : List Bool) : Nat := l.count true
theorem br0_len : ∀ l : List Bool, (br0 l).length = l.length
  | [] => rfl
  | [_] => rfl
  | x :: y :: l => by simp [br0, br0_len l]
theorem br0_ct : ∀ l : List Bool, ct (br0 l) = ct l
  | [] => rfl
  | [_] => rfl
  | x :: y :: l => by
    have := br0_ct l
    unfold ct at *
    cases x <;> cases y <;> simp [br0, List.count_cons, this]
theorem br0_drop : ∀ (m : Nat) (l : List Bool), (br0 l).drop (2 * m) = br0 (l.drop (2 * m))
  | 0, l => rfl
  | m + 1, [] => by simp [br0]
  | m + 1, [x] => by
    have e : 2 * (m + 1) = 2 * m + 1 + 1 := by omega
    rw [e]; simp [br0]
  | m + 1, x :: y :: l => by
    have e : 2 * (m + 1) = 2 * m + 1 + 1 := by omega
    rw [e]; simp only [br0, List.drop_succ_cons]
    exact br0_drop m l
theorem br0_even (l : List Bool) (m : Nat) : ct ((br0 l).drop (2 * m)) = ct (l.drop (2 * m)) := by rw [br0_drop, br0_ct]
/-- the place in the middle of an active pair gains -/
theorem br0_odd (l : List Bool) (m : Nat) : ct (l.drop (2 * m + 1)) ≤ ct ((br0 l).drop (2 * m + 1)) ∧ (2 * m + 1 < l.length → ∀ j, j ≤ ct (l.drop (2 * m)) → j ≤ ct (l.drop (2 * m + 2)) + 1 → j ≤ ct ((br0 l).drop (2 * m + 1))) := by
  have e1 : l.drop (2 * m + 1) = (l.drop (2 * m)).drop 1 := by rw [List.drop_drop]
  have e2 : l.drop (2 * m + 2) = (l.drop (2 * m)).drop 2 := by rw [List.drop_drop]
  have e3 : (br0 l).drop (2 * m + 1) = (br0 (l.drop (2 * m))).drop 1 := by rw [← br0_drop, List.drop_drop]
  have hlen : 2 * m + 1 < l.length → 2 ≤ (l.drop (2 * m)).length := fun h => by rw [List.length_drop]; omega
  rw [e1, e2, e3]
  generalize l.drop (2 * m) = r at hlen
  match r with
  | [] => exact ⟨Nat.le_refl _, fun h => by have := hlen h; simp at this⟩
  | [x] => exact ⟨Nat.le_refl _, fun h => by have := hlen h; simp at this⟩
  | x :: y :: r =>
    have := br0_ct r
    unfold ct at *
    refine ⟨?_, fun _ j h1 h2 => ?_⟩
    · cases x <;> cases y <;> simp [br0, this]
    · cases x <;> cases y <;> simp [br0, this] at h1 h2 ⊢ <;> omega
theorem br_len (t : Nat) (l : List Bool) : (br t l).length = l.length := by
  unfold br
  split
  · exact br0_len l
  · cases l with
    | nil => rfl
    | cons x l => simp [br0_len]
/-- nothing goes back; an active pair lets the first of it go on -/
theorem br_step (t : Nat) (l : List Bool) (y : Nat) : ct (l.drop y) ≤ ct ((br t l).drop y) ∧ (y % 2 = (t + 1) % 2 → 1 ≤ y → y < l.length → ∀ j, j ≤ ct (l.drop (y - 1)) → j ≤ ct (l.drop (y + 1)) + 1 → j ≤ ct ((br t l).drop y)) := by
  unfold br
  by_cases ht : t % 2 = 0
  · rw [if_pos ht]
    by_cases hy : y % 2 = 0
    · obtain ⟨m, rfl⟩ : ∃ m, y = 2 * m := ⟨y / 2, by omega⟩
      exact ⟨Nat.le_of_eq (br0_even l m).symm, fun h => by omega⟩
    · obtain ⟨m, rfl⟩ : ∃ m, y = 2 * m + 1 := ⟨y / 2, by omega⟩
      obtain ⟨h1, h2⟩ := br0_odd l m
      exact ⟨h1, fun _ _ hl => h2 hl⟩
  · rw [if_neg ht]
    cases l with
    | nil => exact ⟨by simp, fun _ _ h => by simp at h⟩
    | cons x l =>
      cases y with
      | zero =>
        have := br0_ct l
        unfold ct at *
        exact ⟨by simp [List.count_cons, this], fun _ h => by omega⟩
      | succ y =>
        simp only [List.drop_succ_cons, List.length_cons]
        by_cases hy : y % 2 = 0
        · obtain ⟨m, rfl⟩ : ∃ m, y = 2 * m := ⟨y / 2, by omega⟩
          exact ⟨Nat.le_of_eq (br0_even l m).symm, fun h => by omega⟩
        · obtain ⟨m, rfl⟩ : ∃ m, y = 2 * m + 1 := ⟨y / 2, by omega⟩
          obtain ⟨h1, h2⟩ := br0_odd l m
          refine ⟨h1, fun _ _ hl j g1 g2 => h2 (by omega) j ?_ (by simpa using g2)⟩
          simpa using g1
/-- levels 0, 1, .., t - 1 -/
def brs : Nat → List Bool → List Bool
  | 0, l => l
  | t + 1, l => br t (brs t l)
theorem brs_len (t : Nat) (l : List Bool) : (brs t l).length = l.length := by
  induction t with
  | zero => rfl
  | succ t ih => show (br t (brs t l)).length = _; rw [br_len, ih]
theorem ct_drop_le (l : List Bool) (y : Nat) : ct l ≤ ct (l.drop y) + y := by
  induction y generalizing l with
  | zero => simp
  | succ y ih =>
    cases l with
    | nil => simp
    | cons x l =>
      have := ih l
      unfold ct at *
      simp only [List.drop_succ_cons, List.count_cons]
      split <;> omega
theorem br_ct (t : Nat) (l : List Bool) : ct (br t l) = ct l := by
  unfold br
  split
  · exact br0_ct l
  · cases l with
    | nil => rfl
    | cons x l =>
      have := br0_ct l
      unfold ct at *
      simp [List.count_cons, this]
theorem brs_ct (t : Nat) (l : List Bool) : ct (brs t l) = ct l := by
  induction t with
  | zero => rfl
  | succ t ih => show ct (br t (brs t l)) = _; rw [br_ct, ih]
/-- c: the parity; the j-th one from behind is not far away -/
theorem brick (l : List Bool) (k c : Nat) (hk : ct l = k) (hc : c ≤ 1) (hpar : (k + c) % 2 = 0) : ∀ (t j : Nat), 1 ≤ j → j ≤ k → ∀ y : Nat, y + 2 * j = k + c + t → y + j ≤ l.length → j ≤ ct ((brs t l).drop y) := by
  intro t
  induction t with
  | zero =>
    intro j h1 h2 y hy hl
    have := ct_drop_le l y
    show j ≤ ct (l.drop y)
    omega
  | succ t ih =>
    intro j h1 h2 y hy hl
    show j ≤ ct ((br t (brs t l)).drop y)
    obtain ⟨s1, s2⟩ := br_step t (brs t l) y
    cases y with
    | zero =>
      have := brs_ct (t + 1) l
      have e : brs (t + 1) l = br t (brs t l) := rfl
      rw [e] at this
      simp only [List.drop_zero]
      omega
    | succ y =>
      refine s2 (by omega) (by omega) (by rw [brs_len]; omega) j ?_ ?_
      · exact ih j h1 h2 y (by omega) (by omega)
      · by_cases hj : j = 1
        · omega
        · have := ih (j - 1) (by omega) (by omega) (y + 1 + 1) (by omega) (by omega)
          omega
theorem brs_mono (l : List Bool) (y t : Nat) : ∀ s, ct ((brs t l).drop y) ≤ ct ((brs (t + s) l).drop y) := by
  intro s
  induction s with
  | zero => exact Nat.le_refl _
  | succ s ih => exact Nat.le_trans ih (br_step (t + s) (brs (t + s) l) y).1
/-- as many levels as places: the ones lie at the end -/
theorem brs_end (l : List Bool) (j : Nat) (hj : j ≤ ct l) : j ≤ ct ((brs l.length l).drop (l.length - j)) := by
  have hl : ct l ≤ l.length := List.count_le_length
  by_cases h0 : j = 0
  · omega
  obtain ⟨c, hc, hp⟩ : ∃ c, c ≤ 1 ∧ (ct l + c) % 2 = 0 := ⟨ct l % 2, by omega, by omega⟩
  have h1 := brick l (ct l) c rfl hc hp (l.length + j - ct l - c) j (by omega) hj (l.length - j) (by omega) (by omega)
  have h2 := brs_mono l (l.length - j) (l.length + j - ct l - c) (ct l + c - j)
  have e : l.length + j - ct l - c + (ct l + c - j) = l.length := by omega
  rw [e] at h2
  exact Nat.le_trans h1 h2
/-- .. so the row is noughts, then ones -/
theorem brs_split (l : List Bool) : (brs l.length l).drop (l.length - ct l) = List.replicate (ct l) true := by
  have h := brs_end l (ct l) (Nat.le_refl _)
  have hl : ct l ≤ l.length := List.count_le_length
  have hlen : ((brs l.length l).drop (l.length - ct l)).length = ct l := by rw [List.length_drop, brs_len]; omega
  refine List.eq_replicate_iff.2 ⟨hlen, fun b hb => ?_⟩
  have : ((brs l.length l).drop (l.length - ct l)).count true = ((brs l.length l).drop (l.length - ct l)).length := by
    have := @List.count_le_length _ _ true ((brs l.length l).drop (l.length - ct l))
    unfold ct at *
    omega
  exact (List.count_eq_length.1 this b hb).symm
end Nw
end
section
/-! comparators inside a part of a row; a level of neighbours -/
namespace Nw
section
variable {α : Type} {lt : α → α → Bool}
def sh (n : Nat) (p : Nat × Nat) : Nat × Nat := (n + p.1, n + p.2)
/-- behind a part that stays -/
theorem step_app (a l : List α) (p : Nat × Nat) : step lt (a ++ l) (sh a.length p) = a ++ step lt l p := by
  unfold step sh
  simp only [List.getElem?_append_right (Nat.le_add_right _ _), Nat.add_sub_cancel_left]
  cases l[p.1]? with
  | none => rfl
  | some x => cases l[p.2]? with
    | none => rfl
    | some y =>
      simp only
      split
      · rw [List.set_append_right _ _ (Nat.le_add_right _ _), List.set_append_right _ _ (Nat.le_add_right _ _)]
        simp
      · rfl
theorem runs_app (a : List α) (ps : List (Nat × Nat)) : ∀ l : List α, runs lt (ps.map (sh a.length)) (a ++ l) = a ++ runs lt ps l := by
  induction ps with
  | nil => intro l; rfl
  | cons p ps ih =>
    intro l
    show runs lt (ps.map (sh a.length)) (step lt (a ++ l) (sh a.length p)) = _
    rw [step_app]
    exact ih _
/-- ahead of a part that stays -/
theorem step_pre (a l : List α) (p : Nat × Nat) (h1 : p.1 < a.length) (h2 : p.2 < a.length) : step lt (a ++ l) p = step lt a p ++ l := by
  unfold step
  rw [List.getElem?_append_left h1, List.getElem?_append_left h2]
  rw [List.getElem?_eq_getElem h1, List.getElem?_eq_getElem h2]
  simp only
  split
  · rw [List.set_append_left _ _ h1, List.set_append_left _ _ (by simpa using h2)]
  · rfl
theorem runs_pre (l : List α) (ps : List (Nat × Nat)) : ∀ a : List α, (∀ p ∈ ps, p.1 < a.length ∧ p.2 < a.length) → runs lt ps (a ++ l) = runs lt ps a ++ l := by
  induction ps with
  | nil => intro a _; rfl
  | cons p ps ih =>
    intro a h
    have hp := h p (List.mem_cons_self ..)
    show runs lt ps (step lt (a ++ l) p) = runs lt ps (step lt a p) ++ l
    rw [step_pre a l p hp.1 hp.2]
    exact ih _ (fun q hq => by rw [step_len]; exact h q (List.mem_cons_of_mem _ hq))
end
/-- the pairs of one level: first place, how many -/
def lv (s : Nat) : Nat → List (Nat × Nat)
  | 0 => []
  | k + 1 => (s, s + 1) :: lv (s + 2) k
theorem lv_sh (n : Nat) : ∀ (k s : Nat), lv (n + s) k = (lv s k).map (sh n)
  | 0, s => rfl
  | k + 1, s => by
    show (n + s, n + s + 1) :: lv (n + s + 2) k = (n + s, n + (s + 1)) :: (lv (s + 2) k).map (sh n)
    rw [← lv_sh n k (s + 2)]
    rfl
theorem lv_br0 : ∀ l : List Bool, runs ltB (lv 0 (l.length / 2)) l = br0 l
  | [] => rfl
  | [x] => by
    have e : ([x] : List Bool).length / 2 = 0 := by simp
    rw [e]
    rfl
  | x :: y :: l => by
    have e : (x :: y :: l).length / 2 = l.length / 2 + 1 := by simp only [List.length_cons]; omega
    rw [e]
    show runs ltB (lv (2 + 0) (l.length / 2)) (step ltB (x :: y :: l) (0, 1)) = (x && y) :: (x || y) :: br0 l
    have e2 : step ltB (x :: y :: l) (0, 1) = [x && y, x || y] ++ l := by cases x <;> cases y <;> rfl
    rw [e2, lv_sh 2]
    have := runs_app (lt := ltB) [x && y, x || y] (lv 0 (l.length / 2)) l
    rw [show ([x && y, x || y] : List Bool).length = 2 from rfl] at this
    rw [this, lv_br0 l]
    rfl
theorem lv_br (t : Nat) (l : List Bool) : runs ltB (lv (t % 2) ((l.length - t % 2) / 2)) l = br t l := by
  unfold br
  by_cases h : t % 2 = 0
  · rw [if_pos h, h]
    exact lv_br0 l
  · have h1 : t % 2 = 1 := by omega
    rw [if_neg h, h1]
    cases l with
    | nil => rfl
    | cons x l =>
      have e : (x :: l).length - 1 = l.length := by simp
      rw [e, show (1 : Nat) = 1 + 0 from rfl, lv_sh 1]
      have := runs_app (lt := ltB) [x] (lv 0 (l.length / 2)) l
      rw [show ([x] : List Bool).length = 1 from rfl] at this
      exact this.trans (by rw [lv_br0 l]; rfl)
/-- all levels of neighbours -/
def nb (n : Nat) : Nat → List (Nat × Nat)
  | 0 => []
  | t + 1 => nb n t ++ lv (t % 2) ((n - t % 2) / 2)
theorem runs_append {α : Type} {lt : α → α → Bool} (a b : List (Nat × Nat)) (l : List α) : runs lt (a ++ b) l = runs lt b (runs lt a l) := List.foldl_append
theorem nb_brs (n t : Nat) (l : List Bool) (h : l.length = n) : runs ltB (nb n t) l = brs t l := by
  induction t with
  | zero => rfl
  | succ t ih =>
    show runs ltB (nb n t ++ lv (t % 2) ((n - t % 2) / 2)) l = br t (brs t l)
    rw [runs_append, ih]
    have := lv_br t (brs t l)
    rw [brs_len, h] at this
    exact this
theorem srt_split {l : List Bool} {k : Nat} (hk : l.count true ≤ k) (h : l.drop (l.length - k) = List.replicate k true) : Srt ltB l := by
  intro i j x y hij h1 h2
  have hc : (l.take (l.length - k)).count true = 0 := by
    have e := congrArg (List.count true) (List.take_append_drop (l.length - k) l)
    rw [List.count_append, h, List.count_replicate] at e
    simp only [beq_self_eq_true, if_true] at e
    omega
  cases x with
  | false => simp [ltB]
  | true =>
    have hi : l.length - k ≤ i := by
      refine Nat.le_of_not_lt fun hlt => ?_
      have : true ∈ l.take (l.length - k) := List.mem_of_getElem? (i := i) (by rw [List.getElem?_take_of_lt hlt, h1])
      exact List.count_eq_zero.1 hc this
    have hy : (l.drop (l.length - k))[j - (l.length - k)]? = some y := by
      rw [List.getElem?_drop, show l.length - k + (j - (l.length - k)) = j by omega, h2]
    rw [h] at hy
    have := List.eq_of_mem_replicate (List.mem_of_getElem? hy)
    subst this
    rfl
/-- neighbours, as many levels as places: sorted -/
theorem nb_srt {α : Type} {lt : α → α → Bool} (o : Ord lt) (l : List α) : Srt lt (runs lt (nb l.length l.length) l) := by
  refine zero_one o _ _ fun t => ?_
  rw [nb_brs l.length l.length _ (by simp)]
  generalize hm : (l.map fun x => lt t x) = m
  have hl : l.length = m.length := by rw [← hm]; simp
  rw [hl]
  have h := brs_split m
  refine srt_split (k := ct m) (Nat.le_of_eq (brs_ct _ _)) ?_
  rw [brs_len]
  exact h
theorem srt_pair {α : Type} {lt : α → α → Bool} {l : List α} (h : Srt lt l) : l.Pairwise fun x y => lt y x = false := by
  rw [List.pairwise_iff_getElem]
  intro i j hi hj hij
  exact h i j _ _ hij (List.getElem?_eq_getElem hi) (List.getElem?_eq_getElem hj)
/-- a sorted row in another order is the sorted row -/
theorem srt_merge {α : Type} {lt : α → α → Bool} (o : Ord lt) (anti : ∀ x y, lt x y = false → lt y x = false → x = y) {l m : List α} (h : Srt lt m) (hp : m.Perm l) : m = l.mergeSort fun x y => !lt y x := by
  have h1 := srt_pair h
  have h2 : (l.mergeSort fun x y => !lt y x).Pairwise fun x y => (!lt y x) = true := by
    refine List.pairwise_mergeSort ?_ ?_ l
    · intro a b c hab hbc
      simp only [Bool.not_eq_true'] at hab hbc ⊢
      exact o.co _ _ _ hbc hab
    · intro a b
      cases hab : lt b a with
      | false => rfl
      | true =>
        cases hba : lt a b with
        | false => rfl
        | true => have := o.tr a b a hba hab; rw [o.irr] at this; cases this
  have h3 : (l.mergeSort fun x y => !lt y x).Pairwise fun x y => lt y x = false := h2.imp fun h => by simpa using h
  refine List.Perm.eq_of_pairwise ?_ h1 h3 (hp.trans (List.mergeSort_perm l _).symm)
  intro a b _ _ hab hba
  exact (anti a b hba hab)
end Nw
end
section
/-! comparators that share no place go in either order -/
namespace Nw
section
variable {α : Type} {lt : α → α → Bool}
/-- no place in common -/
def dj (p q : Nat × Nat) : Prop := p.1 ≠ q.1 ∧ p.1 ≠ q.2 ∧ p.2 ≠ q.1 ∧ p.2 ≠ q.2
theorem step_get (l : List α) (p : Nat × Nat) (n : Nat) (h1 : p.1 ≠ n) (h2 : p.2 ≠ n) : (step lt l p)[n]? = l[n]? := by
  unfold step
  split
  · split
    · rw [List.getElem?_set_ne h2, List.getElem?_set_ne h1]
    · rfl
  · rfl
theorem set_step (l : List α) (p : Nat × Nat) (n : Nat) (x : α) (h1 : p.1 ≠ n) (h2 : p.2 ≠ n) : step lt (l.set n x) p = (step lt l p).set n x := by
  unfold step
  rw [List.getElem?_set_ne h1.symm, List.getElem?_set_ne h2.symm]
  split
  · split
    · rw [List.set_comm _ _ h1.symm, List.set_comm _ _ h2.symm]
    · rfl
  · rfl
theorem step_eq (m l : List α) (p : Nat × Nat) (h1 : m[p.1]? = l[p.1]?) (h2 : m[p.2]? = l[p.2]?) : step lt m p = match l[p.1]?, l[p.2]? with
    | some x, some y => if lt y x = true then (m.set p.1 y).set p.2 x else m
    | _, _ => m := by
  rw [← h1, ← h2]
  rfl
theorem step_comm (l : List α) (p q : Nat × Nat) (h : dj p q) : step lt (step lt l p) q = step lt (step lt l q) p := by
  obtain ⟨a, b, c, d⟩ := h
  have e1 := step_get (lt := lt) l q p.1 a.symm b.symm
  have e2 := step_get (lt := lt) l q p.2 c.symm d.symm
  rw [step_eq _ l p e1 e2, step_eq l l p rfl rfl]
  cases l[p.1]? with
  | none => rfl
  | some x => cases l[p.2]? with
    | none => rfl
    | some y =>
      simp only
      split
      · rw [set_step _ _ _ _ c.symm d.symm, set_step _ _ _ _ a.symm b.symm]
      · rfl
/-- one comparator goes past a row of others -/
theorem runs_comm (q : Nat × Nat) (ps : List (Nat × Nat)) (h : ∀ p ∈ ps, dj p q) : ∀ l : List α, runs lt ps (step lt l q) = step lt (runs lt ps l) q := by
  induction ps with
  | nil => intro l; rfl
  | cons p ps ih =>
    intro l
    show runs lt ps (step lt (step lt l q) p) = step lt (runs lt ps (step lt l p)) q
    rw [← step_comm l p q (h p (List.mem_cons_self ..))]
    exact ih (fun r hr => h r (List.mem_cons_of_mem _ hr)) _
/-- a level in another order -/
theorem runs_level {ps qs : List (Nat × Nat)} (hp : ps.Perm qs) (h : ps.Pairwise dj) (l : List α) : runs lt ps l = runs lt qs l := by
  induction hp generalizing l with
  | nil => rfl
  | cons x _ ih => exact ih (List.pairwise_cons.1 h).2 _
  | swap x y l' =>
    show runs lt l' (step lt (step lt l y) x) = runs lt l' (step lt (step lt l x) y)
    rw [step_comm l y x ((List.pairwise_cons.1 h).1 x (List.mem_cons_self ..))]
  | trans h1 _ ih1 ih2 =>
    refine (ih1 h l).trans (ih2 ?_ l)
    refine (h1.pairwise_iff ?_).1 h
    intro a b ⟨x, y, z, w⟩
    exact ⟨x.symm, z.symm, y.symm, w.symm⟩
end
end Nw
end
section
/-! the greedy levels: each comparator as early as its places let it -/
namespace Nw
abbrev Pr := Nat × Nat
def put : Nat → Pr → List (List Pr) → List (List Pr)
  | _, q, [] => [[q]]
  | 0, q, L :: Ls => (L ++ [q]) :: Ls
  | n + 1, q, L :: Ls => L :: put n q Ls
section
variable {α : Type} {lt : α → α → Bool}
theorem runs_append' (a b : List Pr) (l : List α) : runs lt (a ++ b) l = runs lt b (runs lt a l) := List.foldl_append
theorem put_runs (q : Pr) : ∀ (n : Nat) (Ls : List (List Pr)), (∀ L ∈ Ls.drop n, ∀ p ∈ L, dj p q) → ∀ l : List α, runs lt (put n q Ls).flatten l = step lt (runs lt Ls.flatten l) q
  | n, [], _, l => by cases n <;> rfl
  | 0, L :: Ls, h, l => by
    show runs lt ((L ++ [q]) ++ Ls.flatten) l = step lt (runs lt (L ++ Ls.flatten) l) q
    rw [runs_append', runs_append', runs_append']
    show runs lt Ls.flatten (step lt (runs lt L l) q) = _
    refine runs_comm q _ (fun p hp => ?_) _
    obtain ⟨M, hM, hpM⟩ := List.mem_flatten.1 hp
    exact h M (List.mem_cons_of_mem _ hM) p hpM
  | n + 1, L :: Ls, h, l => by
    show runs lt (L ++ (put n q Ls).flatten) l = step lt (runs lt (L ++ Ls.flatten) l) q
    rw [runs_append', runs_append']
    exact put_runs q n Ls (fun M hM => h M (by simpa using hM)) _
end
/-- where each place is free again -/
def fr (free : Nat → Nat) (n : Nat) (q : Pr) : Nat → Nat := fun i => if i = q.1 ∨ i = q.2 then n + 1 else free i
structure St where
  free : Nat → Nat
  levels : List (List Pr)
def St.add (s : St) (q : Pr) : St := ⟨fr s.free (max (s.free q.1) (s.free q.2)) q, put (max (s.free q.1) (s.free q.2)) q s.levels⟩
def St.zero : St := ⟨fun _ => 0, []⟩
def lvs (ps : List Pr) : St := ps.foldl St.add St.zero
/-- level k holds places that are free after k only -/
def Fit (free : Nat → Nat) (k : Nat) : List (List Pr) → Prop
  | [] => True
  | L :: Ls => (∀ p ∈ L, k < free p.1 ∧ k < free p.2) ∧ L.Pairwise dj ∧ Fit free (k + 1) Ls
theorem fit_dj {free : Nat → Nat} {q : Pr} : ∀ (Ls : List (List Pr)) (k n : Nat), Fit free k Ls → free q.1 ≤ k + n → free q.2 ≤ k + n → ∀ L ∈ Ls.drop n, ∀ p ∈ L, dj p q
  | [], k, n, _, _, _, L, hL, p, hp => by simp at hL
  | M :: Ls, k, 0, h, h1, h2, L, hL, p, hp => by
    rcases List.mem_cons.1 hL with rfl | hL
    · have := h.1 p hp
      refine ⟨?_, ?_, ?_, ?_⟩ <;> intro e <;> rw [e] at this <;> omega
    · exact fit_dj Ls (k + 1) 0 h.2.2 (by omega) (by omega) L hL p hp
  | M :: Ls, k, n + 1, h, h1, h2, L, hL, p, hp => fit_dj Ls (k + 1) n h.2.2 (by omega) (by omega) L (by simpa using hL) p hp
theorem dj_symm {p q : Pr} (h : dj p q) : dj q p := ⟨h.1.symm, h.2.2.1.symm, h.2.1.symm, h.2.2.2.symm⟩
/-- more free: still fit -/
theorem fit_more {f g : Nat → Nat} (hfg : ∀ i, f i ≤ g i) : ∀ (Ls : List (List Pr)) (k : Nat), Fit f k Ls → Fit g k Ls
  | [], _, _ => trivial
  | L :: Ls, k, h => ⟨fun p hp => by have := h.1 p hp; have := hfg p.1; have := hfg p.2; omega, h.2.1, fit_more hfg Ls (k + 1) h.2.2⟩
theorem put_fit {free : Nat → Nat} {q : Pr} : ∀ (Ls : List (List Pr)) (k n : Nat), Fit free k Ls → n ≤ Ls.length → k + n < free q.1 → k + n < free q.2 → (∀ L ∈ Ls.drop n, ∀ p ∈ L, dj p q) → Fit free k (put n q Ls)
  | [], k, n, _, hn, h1, h2, _ => by
    have e : put n q [] = [[q]] := by cases n <;> rfl
    rw [e]
    exact ⟨fun p hp => by rw [List.mem_singleton.1 hp]; constructor <;> omega, List.pairwise_singleton _ _, trivial⟩
  | M :: Ls, k, 0, h, _, h1, h2, hd => by
    refine ⟨fun p hp => ?_, ?_, h.2.2⟩
    · rcases List.mem_append.1 hp with hp | hp
      · exact h.1 p hp
      · rw [List.mem_singleton.1 hp]; constructor <;> omega
    · refine List.pairwise_append.2 ⟨h.2.1, List.pairwise_singleton _ _, fun a ha b hb => ?_⟩
      rw [List.mem_singleton.1 hb]
      exact hd M (List.mem_cons_self ..) a ha
  | M :: Ls, k, n + 1, h, hn, h1, h2, hd => ⟨h.1, h.2.1, put_fit Ls (k + 1) n h.2.2 (by simpa using hn) (by omega) (by omega) (fun L hL => hd L (by simpa using hL))⟩
theorem put_len (q : Pr) : ∀ (n : Nat) (Ls : List (List Pr)), n ≤ Ls.length → (put n q Ls).length = max Ls.length (n + 1)
  | n, [], h => by cases n <;> simp_all [put]
  | 0, L :: Ls, _ => by simp [put]
  | n + 1, L :: Ls, h => by
    have := put_len q n Ls (by simpa using h)
    simp only [put, List.length_cons, this]
    omega
structure Good (s : St) : Prop where
  fit : Fit s.free 0 s.levels
  le : ∀ i, s.free i ≤ s.levels.length
theorem good_add {s : St} (h : Good s) (q : Pr) : Good (s.add q) := by
  have hn : max (s.free q.1) (s.free q.2) ≤ s.levels.length := Nat.max_le.2 ⟨h.le _, h.le _⟩
  have hd := fit_dj (q := q) s.levels 0 (max (s.free q.1) (s.free q.2)) h.fit (by omega) (by omega)
  have hm : ∀ i, s.free i ≤ fr s.free (max (s.free q.1) (s.free q.2)) q i := by
    intro i
    unfold fr
    split
    · rename_i e
      rcases e with e | e <;> rw [e] <;> omega
    · exact Nat.le_refl _
  refine ⟨put_fit s.levels 0 _ (fit_more hm _ _ h.fit) hn (by simp [St.add, fr]) (by simp [St.add, fr]) hd, fun i => ?_⟩
  show fr s.free (max (s.free q.1) (s.free q.2)) q i ≤ (put _ q s.levels).length
  rw [put_len q _ _ hn]
  have := h.le i
  unfold fr
  split <;> omega
theorem add_runs {α : Type} {lt : α → α → Bool} {s : St} (h : Good s) (q : Pr) (l : List α) : runs lt (s.add q).levels.flatten l = step lt (runs lt s.levels.flatten l) q :=
  put_runs q _ _ (fit_dj s.levels 0 _ h.fit (by omega) (by omega)) l
theorem good_zero : Good St.zero := ⟨trivial, fun _ => Nat.le_refl _⟩
/-- the levels run as the row of comparators does -/
theorem lvs_from {α : Type} {lt : α → α → Bool} (ps : List Pr) : ∀ s : St, Good s → Good (ps.foldl St.add s) ∧ ∀ l : List α, runs lt (ps.foldl St.add s).levels.flatten l = runs lt ps (runs lt s.levels.flatten l) := by
  induction ps with
  | nil => exact fun s h => ⟨h, fun _ => rfl⟩
  | cons p ps ih =>
    intro s h
    obtain ⟨a, b⟩ := ih (s.add p) (good_add h p)
    refine ⟨a, fun l => (b l).trans ?_⟩
    rw [add_runs h]
    rfl
theorem lvs_runs {α : Type} {lt : α → α → Bool} (ps : List Pr) (l : List α) : runs lt (lvs ps).levels.flatten l = runs lt ps l := (lvs_from ps St.zero good_zero).2 l
theorem lvs_good (ps : List Pr) : Good (lvs ps) := (lvs_from (α := Bool) (lt := ltB) ps St.zero good_zero).1
/-- a level may be sorted: its comparators share no place -/
theorem levels_perm {α : Type} {lt : α → α → Bool} {free : Nat → Nat} (so : List Pr → List Pr) (hso : ∀ L : List Pr, List.Perm L (so L)) : ∀ (Ls : List (List Pr)) (k : Nat), Fit free k Ls → ∀ l : List α, runs lt (Ls.map so).flatten l = runs lt Ls.flatten l
  | [], _, _, _ => rfl
  | L :: Ls, k, h, l => by
    show runs lt (so L ++ (Ls.map so).flatten) l = runs lt (L ++ Ls.flatten) l
    rw [runs_append', runs_append', levels_perm so hso Ls (k + 1) h.2.2, runs_level (hso L) h.2.1]
end Nw
end
section
/-! two rows in order, merged: the arithmetic of noughts -/
namespace Nw
/-- what lies at a place after the two inner merges: E noughts along the even ones, O along the odd ones -/
structure Mid (p q E O : Nat) (v : Nat → Bool) : Prop where
  a0 : ∀ i, 2 * i < p → v (2 * i) = decide (E ≤ i)
  a1 : ∀ i, 2 * i + 1 < p → v (2 * i + 1) = decide (O ≤ i)
  b0 : ∀ i, 2 * i < q → v (p + 2 * i) = decide (E ≤ (p + 1) / 2 + i)
  b1 : ∀ i, 2 * i + 1 < q → v (p + (2 * i + 1)) = decide (O ≤ p / 2 + i)
theorem Mid.at {p q E O : Nat} {v : Nat → Bool} (h : Mid p q E O v) (i : Nat) (hi : i < p + q) : v i = true ↔ (i < p ∧ i % 2 = 0 ∧ E ≤ i / 2) ∨ (i < p ∧ i % 2 = 1 ∧ O ≤ i / 2) ∨ (p ≤ i ∧ (i - p) % 2 = 0 ∧ E ≤ (p + 1) / 2 + (i - p) / 2) ∨ (p ≤ i ∧ (i - p) % 2 = 1 ∧ O ≤ p / 2 + (i - p) / 2) := by
  by_cases h1 : i < p
  · by_cases h2 : i % 2 = 0
    · have := h.a0 (i / 2) (by omega)
      rw [show 2 * (i / 2) = i by omega] at this
      rw [this, decide_eq_true_iff]
      omega
    · have := h.a1 (i / 2) (by omega)
      rw [show 2 * (i / 2) + 1 = i by omega] at this
      rw [this, decide_eq_true_iff]
      omega
  · by_cases h2 : (i - p) % 2 = 0
    · have := h.b0 ((i - p) / 2) (by omega)
      rw [show p + 2 * ((i - p) / 2) = i by omega] at this
      rw [this, decide_eq_true_iff]
      omega
    · have := h.b1 ((i - p) / 2) (by omega)
      rw [show p + (2 * ((i - p) / 2) + 1) = i by omega] at this
      rw [this, decide_eq_true_iff]
      omega
theorem core {p q a b : Nat} {v : Nat → Bool} (ha : a ≤ p) (hb : b ≤ q) (h : Mid p q ((a + 1) / 2 + (b + 1) / 2) (a / 2 + b / 2) v) :
    (0 < p + q → v 0 = decide (a + b ≤ 0)) ∧
    (∀ i, 2 * i + 2 < p + q → (v (2 * i + 1) && v (2 * i + 2)) = decide (a + b ≤ 2 * i + 1) ∧ (v (2 * i + 1) || v (2 * i + 2)) = decide (a + b ≤ 2 * i + 2)) ∧
    (∀ i, 2 * i + 2 = p + q → v (2 * i + 1) = decide (a + b ≤ 2 * i + 1)) := by
  refine ⟨fun h0 => ?_, fun i hi => ⟨?_, ?_⟩, fun i hi => ?_⟩
  · rw [Bool.eq_iff_iff, h.at 0 h0, decide_eq_true_iff]
    omega
  · rw [Bool.eq_iff_iff, Bool.and_eq_true, h.at _ (by omega), h.at _ (by omega), decide_eq_true_iff]
    omega
  · rw [Bool.eq_iff_iff, Bool.or_eq_true, h.at _ (by omega), h.at _ (by omega), decide_eq_true_iff]
    omega
  · rw [Bool.eq_iff_iff, h.at _ (by omega), decide_eq_true_iff]
    omega
end Nw
end
section
/-! every second thing; a layer of comparators that share no place -/
namespace Nw
def evs {α : Type} : List α → List α
  | x :: _ :: l => x :: evs l
  | l => l
def ods {α : Type} : List α → List α
  | _ :: y :: l => y :: ods l
  | _ => []
theorem evs_get {α : Type} : ∀ (l : List α) (i : Nat), (evs l)[i]? = l[2 * i]?
  | [], i => by simp [evs]
  | [x], 0 => rfl
  | [x], i + 1 => by simp [evs]
  | x :: y :: l, 0 => rfl
  | x :: y :: l, i + 1 => by
    rw [show 2 * (i + 1) = 2 * i + 1 + 1 by omega]
    simpa [evs] using evs_get l i
theorem ods_get {α : Type} : ∀ (l : List α) (i : Nat), (ods l)[i]? = l[2 * i + 1]?
  | [], i => by simp [ods]
  | [x], i => by simp [ods]
  | x :: y :: l, 0 => rfl
  | x :: y :: l, i + 1 => by
    rw [show 2 * (i + 1) + 1 = 2 * i + 1 + 1 + 1 by omega]
    simpa [ods] using ods_get l i
theorem evs_len {α : Type} : ∀ l : List α, (evs l).length = (l.length + 1) / 2
  | [] => by simp [evs]
  | [x] => by simp [evs]
  | x :: y :: l => by simp only [evs, List.length_cons, evs_len l]; omega
theorem ods_len {α : Type} : ∀ l : List α, (ods l).length = l.length / 2
  | [] => by simp [ods]
  | [x] => by simp [ods]
  | x :: y :: l => by simp only [ods, List.length_cons, ods_len l]; omega
theorem step_bool {l : List Bool} {p : Pr} {x y : Bool} (h1 : l[p.1]? = some x) (h2 : l[p.2]? = some y) (hne : p.1 ≠ p.2) : (step ltB l p)[p.1]? = some (x && y) ∧ (step ltB l p)[p.2]? = some (x || y) := by
  obtain ⟨l1, g1⟩ := List.getElem?_eq_some_iff.mp h1
  obtain ⟨l2, g2⟩ := List.getElem?_eq_some_iff.mp h2
  unfold step
  rw [h1, h2]
  simp only
  cases x <;> cases y <;> simp [ltB, g1, g2, l1, l2, hne.symm]
theorem runs_get {ps : List Pr} {n : Nat} (h : ∀ p ∈ ps, p.1 ≠ n ∧ p.2 ≠ n) : ∀ l : List Bool, (runs ltB ps l)[n]? = l[n]? := by
  induction ps with
  | nil => intro l; rfl
  | cons p ps ih =>
    intro l
    have hp := h p (List.mem_cons_self ..)
    exact (ih (fun q hq => h q (List.mem_cons_of_mem _ hq)) _).trans (step_get l p n hp.1 hp.2)
/-- one layer -/
theorem layer {ps : List Pr} (hd : ps.Pairwise dj) : ∀ (l : List Bool) (p : Pr), p ∈ ps → p.1 ≠ p.2 → ∀ x y, l[p.1]? = some x → l[p.2]? = some y → (runs ltB ps l)[p.1]? = some (x && y) ∧ (runs ltB ps l)[p.2]? = some (x || y) := by
  induction ps with
  | nil => intro l p hp; cases hp
  | cons q ps ih =>
    intro l p hp hne x y h1 h2
    obtain ⟨hq, hd⟩ := List.pairwise_cons.1 hd
    show (runs ltB ps (step ltB l q))[p.1]? = _ ∧ (runs ltB ps (step ltB l q))[p.2]? = _
    rcases List.mem_cons.1 hp with rfl | hp
    · obtain ⟨a, b⟩ := step_bool h1 h2 hne
      rw [runs_get (fun r hr => ⟨(hq r hr).1.symm, (hq r hr).2.1.symm⟩), runs_get (fun r hr => ⟨(hq r hr).2.2.1.symm, (hq r hr).2.2.2.symm⟩)]
      exact ⟨a, b⟩
    · obtain ⟨a, b, c, d⟩ := hq p hp
      exact ih hd _ p hp hne x y ((step_get l q p.1 a c).trans h1) ((step_get l q p.2 b d).trans h2)
end Nw
end
section
/-! merging -/
namespace Nw
def zp : List Nat → List Nat → List Pr
  | a :: l, b :: m => (a, b) :: zp l m
  | _, _ => []
def mrg : Nat → List Nat → List Nat → List Pr
  | 0, _, _ => []
  | k + 1, one, other =>
    if one = [] ∨ other = [] then []
    else if one.length = 1 ∧ other.length = 1 then zp one other
    else mrg k (evs one) (evs other) ++ mrg k (ods one) (ods other) ++ zp (ods (one ++ other)) (evs ((one ++ other).drop 2))
theorem zp_mem : ∀ (l m : List Nat) (p : Pr), p ∈ zp l m ↔ ∃ i : Nat, l[i]? = some p.1 ∧ m[i]? = some p.2
  | [], m, p => by simp [zp]
  | a :: l, [], p => by simp [zp]
  | a :: l, b :: m, p => by
    rw [zp, List.mem_cons, zp_mem l m p]
    constructor
    · rintro (rfl | ⟨i, h1, h2⟩)
      · exact ⟨0, rfl, rfl⟩
      · exact ⟨i + 1, h1, h2⟩
    · rintro ⟨i, h1, h2⟩
      cases i with
      | zero =>
        left
        simp only [List.getElem?_cons_zero, Option.some.injEq] at h1 h2
        exact Prod.ext h1.symm h2.symm
      | succ i => exact Or.inr ⟨i, h1, h2⟩
/-- along these places: z noughts, then ones -/
def Z (l : List Bool) (ps : List Nat) (z : Nat) : Prop := ∀ (i n : Nat), ps[i]? = some n → l[n]? = some (decide (z ≤ i))
theorem Z.evs {l : List Bool} {ps : List Nat} {z : Nat} (h : Z l ps z) : Z l (evs ps) ((z + 1) / 2) := by
  intro i n hn
  rw [evs_get] at hn
  rw [h _ n hn]
  congr 1
  rw [decide_eq_decide]
  omega
theorem Z.ods {l : List Bool} {ps : List Nat} {z : Nat} (h : Z l ps z) : Z l (ods ps) (z / 2) := by
  intro i n hn
  rw [ods_get] at hn
  rw [h _ n hn]
  congr 1
  rw [decide_eq_decide]
  omega
/-- all comparators of a merge lie among its places -/
theorem mem_evs {α : Type} {l : List α} {x : α} (h : x ∈ evs l) : x ∈ l := by
  obtain ⟨i, hi⟩ := List.getElem?_of_mem h
  rw [evs_get] at hi
  exact List.mem_of_getElem? hi
theorem mem_ods {α : Type} {l : List α} {x : α} (h : x ∈ ods l) : x ∈ l := by
  obtain ⟨i, hi⟩ := List.getElem?_of_mem h
  rw [ods_get] at hi
  exact List.mem_of_getElem? hi
theorem mrg_mem : ∀ (k : Nat) (one other : List Nat) (p : Pr), p ∈ mrg k one other → p.1 ∈ one ++ other ∧ p.2 ∈ one ++ other
  | 0, _, _, _, h => by cases h
  | k + 1, one, other, p, h => by
    unfold mrg at h
    split at h
    · cases h
    · split at h
      · obtain ⟨i, h1, h2⟩ := (zp_mem _ _ _).1 h
        exact ⟨List.mem_append_left _ (List.mem_of_getElem? h1), List.mem_append_right _ (List.mem_of_getElem? h2)⟩
      · rcases List.mem_append.1 h with h | h
        · rcases List.mem_append.1 h with h | h
          · obtain ⟨a, b⟩ := mrg_mem k _ _ p h
            have go : ∀ x, x ∈ evs one ++ evs other → x ∈ one ++ other := fun x hx => by
              rcases List.mem_append.1 hx with hx | hx
              · exact List.mem_append_left _ (mem_evs hx)
              · exact List.mem_append_right _ (mem_evs hx)
            exact ⟨go _ a, go _ b⟩
          · obtain ⟨a, b⟩ := mrg_mem k _ _ p h
            have go : ∀ x, x ∈ ods one ++ ods other → x ∈ one ++ other := fun x hx => by
              rcases List.mem_append.1 hx with hx | hx
              · exact List.mem_append_left _ (mem_ods hx)
              · exact List.mem_append_right _ (mem_ods hx)
            exact ⟨go _ a, go _ b⟩
        · obtain ⟨i, h1, h2⟩ := (zp_mem _ _ _).1 h
          exact ⟨mem_ods (List.mem_of_getElem? h1), List.mem_of_mem_drop (mem_evs (List.mem_of_getElem? h2))⟩
end Nw
end
section
/-! Batcher's merge puts noughts first -/
namespace Nw
def Inj (l : List Nat) : Prop := ∀ (i j n : Nat), l[i]? = some n → l[j]? = some n → i = j
def Off (l m : List Nat) : Prop := ∀ n, n ∈ l → n ∈ m → False
theorem Inj.evs {l : List Nat} (h : Inj l) : Inj (Nw.evs l) := by
  intro i j n h1 h2
  rw [evs_get] at h1 h2
  have := h _ _ n h1 h2
  omega
theorem Inj.ods {l : List Nat} (h : Inj l) : Inj (Nw.ods l) := by
  intro i j n h1 h2
  rw [ods_get] at h1 h2
  have := h _ _ n h1 h2
  omega
theorem Inj.off {l : List Nat} (h : Inj l) : Off (Nw.evs l) (Nw.ods l) := by
  intro n h1 h2
  obtain ⟨i, h1⟩ := List.getElem?_of_mem h1
  obtain ⟨j, h2⟩ := List.getElem?_of_mem h2
  rw [evs_get] at h1
  rw [ods_get] at h2
  have := h _ _ n h1 h2
  omega
theorem Off.sub {l m l' m' : List Nat} (h : Off l m) (h1 : ∀ n, n ∈ l' → n ∈ l) (h2 : ∀ n, n ∈ m' → n ∈ m) : Off l' m' := fun n a b => h n (h1 n a) (h2 n b)
/-- comparators elsewhere leave the noughts -/
theorem Z.keep {l : List Bool} {ps : List Nat} {z : Nat} {qs : List Pr} (h : Z l ps z) (hq : ∀ q ∈ qs, q.1 ∉ ps ∧ q.2 ∉ ps) : Z (runs ltB qs l) ps z := by
  intro i n hn
  have hm := List.mem_of_getElem? hn
  rw [runs_get (fun q hqq => ⟨fun e => (hq q hqq).1 (e ▸ hm), fun e => (hq q hqq).2 (e ▸ hm)⟩)]
  exact h i n hn
theorem Z.left {l : List Bool} {a b : List Nat} {z : Nat} (h : Z l (a ++ b) z) (i n : Nat) (hn : a[i]? = some n) : l[n]? = some (decide (z ≤ i)) :=
  h i n (by rw [List.getElem?_append_left (List.getElem?_eq_some_iff.mp hn).1, hn])
theorem Z.right {l : List Bool} {a b : List Nat} {z : Nat} (h : Z l (a ++ b) z) (i n : Nat) (hn : b[i]? = some n) : l[n]? = some (decide (z ≤ a.length + i)) :=
  h (a.length + i) n (by rw [List.getElem?_append_right (Nat.le_add_right _ _), Nat.add_sub_cancel_left, hn])
/-- the row before the last layer -/
theorem mid_of {l : List Bool} {one other : List Nat} {E O : Nat} (he : Z l (evs one ++ evs other) E) (ho : Z l (ods one ++ ods other) O) : Mid one.length other.length E O (fun i => (((one ++ other)[i]?).bind fun n => l[n]?).getD false) := by
  refine ⟨fun i hi => ?_, fun i hi => ?_, fun i hi => ?_, fun i hi => ?_⟩
  · have e : one[2 * i]? = some one[2 * i] := List.getElem?_eq_getElem hi
    have := he.left i one[2 * i] (by rw [evs_get, e])
    simp only [List.getElem?_append_left hi, e, Option.bind_some, this, Option.getD_some]
  · have e : one[2 * i + 1]? = some one[2 * i + 1] := List.getElem?_eq_getElem hi
    have := ho.left i one[2 * i + 1] (by rw [ods_get, e])
    simp only [List.getElem?_append_left hi, e, Option.bind_some, this, Option.getD_some]
  · have e : other[2 * i]? = some other[2 * i] := List.getElem?_eq_getElem hi
    have := he.right i other[2 * i] (by rw [evs_get, e])
    rw [evs_len] at this
    simp only [List.getElem?_append_right (Nat.le_add_right _ _), Nat.add_sub_cancel_left, e, Option.bind_some, this, Option.getD_some]
  · have e : other[2 * i + 1]? = some other[2 * i + 1] := List.getElem?_eq_getElem hi
    have := ho.right i other[2 * i + 1] (by rw [ods_get, e])
    rw [ods_len] at this
    simp only [List.getElem?_append_right (Nat.le_add_right _ _), Nat.add_sub_cancel_left, e, Option.bind_some, this, Option.getD_some]
end Nw
end
section
namespace Nw
theorem inj_app {one other : List Nat} (h1 : Inj one) (h2 : Inj other) (h3 : Off one other) : Inj (one ++ other) := by
  intro i j n hi hj
  rw [List.getElem?_append] at hi hj
  split at hi
  · split at hj
    · exact h1 i j n hi hj
    · exact (h3 n (List.mem_of_getElem? hi) (List.mem_of_getElem? hj)).elim
  · split at hj
    · exact (h3 n (List.mem_of_getElem? hj) (List.mem_of_getElem? hi)).elim
    · have := h2 _ _ n hi hj
      omega
/-- the last layer's comparators -/
theorem last_mem {ps : List Nat} {p : Pr} : p ∈ zp (ods ps) (evs (ps.drop 2)) ↔ ∃ i : Nat, ps[2 * i + 1]? = some p.1 ∧ ps[2 * i + 2]? = some p.2 := by
  rw [zp_mem]
  simp only [ods_get, evs_get, List.getElem?_drop]
  constructor <;> rintro ⟨i, a, b⟩ <;> exact ⟨i, a, by rw [← b]; congr 1; omega⟩
theorem zp_pw : ∀ (l m : List Nat), (∀ (i j : Nat) (p q : Pr), i < j → l[i]? = some p.1 → m[i]? = some p.2 → l[j]? = some q.1 → m[j]? = some q.2 → dj p q) → (zp l m).Pairwise dj
  | [], m, _ => by simp [zp]
  | a :: l, [], _ => by simp [zp]
  | a :: l, b :: m, h => by
    rw [zp, List.pairwise_cons]
    refine ⟨fun q hq => ?_, zp_pw l m fun i j p q hij a b c d => h (i + 1) (j + 1) p q (by omega) a b c d⟩
    obtain ⟨i, h1, h2⟩ := (zp_mem _ _ _).1 hq
    exact h 0 (i + 1) (a, b) q (by omega) rfl rfl h1 h2
theorem last_dj {ps : List Nat} (h : Inj ps) : (zp (ods ps) (evs (ps.drop 2))).Pairwise dj := by
  refine zp_pw _ _ fun i j p q hij a b c d => ?_
  rw [ods_get] at a c
  rw [evs_get, List.getElem?_drop] at b d
  refine ⟨fun e => ?_, fun e => ?_, fun e => ?_, fun e => ?_⟩
  · rw [e] at a; have := h _ _ _ a c; omega
  · rw [e] at a; have := h _ _ _ a d; omega
  · rw [e] at b; have := h _ _ _ b c; omega
  · rw [e] at b; have := h _ _ _ b d; omega
/-- the last layer puts the noughts first -/
theorem last_Z {l : List Bool} {one other : List Nat} {a b : Nat} (ha : a ≤ one.length) (hb : b ≤ other.length) (hin : ∀ n ∈ one ++ other, n < l.length) (hi : Inj (one ++ other)) (he : Z l (evs one ++ evs other) ((a + 1) / 2 + (b + 1) / 2)) (ho : Z l (ods one ++ ods other) (a / 2 + b / 2)) : Z (runs ltB (zp (ods (one ++ other)) (evs ((one ++ other).drop 2))) l) (one ++ other) (a + b) := by
  obtain ⟨c1, c2, c3⟩ := core ha hb (mid_of he ho)
  have hlen : (one ++ other).length = one.length + other.length := List.length_append
  rw [← hlen] at c1 c2 c3
  generalize hP : one ++ other = P at *
  have hv : ∀ (i n : Nat), P[i]? = some n → l[n]? = some (((P[i]?).bind fun n => l[n]?).getD false) := by
    intro i n hn
    have := hin n (List.mem_of_getElem? hn)
    rw [hn, Option.bind_some, List.getElem?_eq_getElem this, Option.getD_some]
  have hdj := last_dj hi
  intro i n hn
  have hlt : i < P.length := (List.getElem?_eq_some_iff.mp hn).1
  by_cases h0 : i = 0
  · subst h0
    rw [runs_get ?_, hv 0 n hn, c1 hlt]
    intro p hp
    obtain ⟨j, x, y⟩ := last_mem.1 hp
    exact ⟨fun e => by rw [e] at x; have := hi _ _ _ x hn; omega, fun e => by rw [e] at y; have := hi _ _ _ y hn; omega⟩
  · by_cases hodd : i % 2 = 1
    · obtain ⟨j, rfl⟩ : ∃ j, i = 2 * j + 1 := ⟨i / 2, by omega⟩
      by_cases hl : 2 * j + 2 < P.length
      · have hn2 : P[2 * j + 2]? = some P[2 * j + 2] := List.getElem?_eq_getElem hl
        have := (layer hdj l (n, P[2 * j + 2]) (last_mem.2 ⟨j, hn, hn2⟩) (fun e => by have e : n = P[2 * j + 2] := e; rw [← e] at hn2; have := hi _ _ _ hn hn2; omega) _ _ (hv _ _ hn) (hv _ _ hn2)).1
        rw [this, (c2 j hl).1]
      · rw [runs_get ?_, hv _ n hn, c3 j (by omega)]
        intro p hp
        obtain ⟨k, x, y⟩ := last_mem.1 hp
        have hy := (List.getElem?_eq_some_iff.mp y).1
        exact ⟨fun e => by rw [e] at x; have := hi _ _ _ x hn; omega, fun e => by rw [e] at y; have := hi _ _ _ y hn; omega⟩
    · obtain ⟨j, rfl⟩ : ∃ j, i = 2 * j + 2 := ⟨i / 2 - 1, by omega⟩
      have hl : 2 * j + 1 < P.length := by omega
      have hn2 : P[2 * j + 1]? = some P[2 * j + 1] := List.getElem?_eq_getElem hl
      have := (layer hdj l (P[2 * j + 1], n) (last_mem.2 ⟨j, hn2, hn⟩) (fun e => by have e : P[2 * j + 1] = n := e; rw [e] at hn2; have := hi _ _ _ hn hn2; omega) _ _ (hv _ _ hn2) (hv _ _ hn)).2
      rw [this, (c2 j hlt).2]
theorem none_Z {one other : List Nat} {l : List Bool} {a b : Nat} (h : one = [] ∨ other = []) (za : Z l one a) (zb : Z l other b) (ha : a ≤ one.length) (hb : b ≤ other.length) : Z l (one ++ other) (a + b) := by
  rcases h with rfl | rfl
  · have e : a = 0 := by simpa using ha
    subst e
    simpa using zb
  · have e : b = 0 := by simpa using hb
    subst e
    simpa using za
theorem one_Z {one other : List Nat} {l : List Bool} {a b : Nat} (h : one.length = 1 ∧ other.length = 1) (hof : Off one other) (za : Z l one a) (zb : Z l other b) (ha : a ≤ one.length) (hb : b ≤ other.length) : Z (runs ltB (zp one other) l) (one ++ other) (a + b) := by
  obtain ⟨x, rfl⟩ := List.length_eq_one_iff.1 h.1
  obtain ⟨y, rfl⟩ := List.length_eq_one_iff.1 h.2
  have hne : x ≠ y := fun e => hof x (by simp) (by simp [e])
  obtain ⟨s1, s2⟩ := step_bool (p := (x, y)) (za 0 x rfl) (zb 0 y rfl) hne
  simp only [List.length_singleton] at ha hb
  intro i n hn
  show (step ltB l (x, y))[n]? = _
  match i, hn with
  | 0, hn =>
    have e : x = n := by simpa using hn
    rw [← e, s1]
    congr 1
    rw [Bool.eq_iff_iff, Bool.and_eq_true, decide_eq_true_iff, decide_eq_true_iff, decide_eq_true_iff]
    omega
  | 1, hn =>
    have e : y = n := by simpa using hn
    rw [← e, s2]
    congr 1
    rw [Bool.eq_iff_iff, Bool.or_eq_true, decide_eq_true_iff, decide_eq_true_iff, decide_eq_true_iff]
    omega
  | i + 2, hn => simp at hn
theorem mrg_Z : ∀ (k : Nat) (one other : List Nat) (l : List Bool) (a b : Nat), one.length ≤ 2 ^ k → other.length ≤ 2 ^ k → Inj one → Inj other → Off one other → Z l one a → Z l other b → a ≤ one.length → b ≤ other.length → Z (runs ltB (mrg (k + 1) one other) l) (one ++ other) (a + b) := by
  intro k
  induction k with
  | zero =>
    intro one other l a b h1 h2 i1 i2 hof za zb ha hb
    rw [mrg]
    split
    · rename_i h
      exact none_Z h za zb ha hb
    · split
      · rename_i h
        exact one_Z h hof za zb ha hb
      · rename_i g1 g2
        have l1 : one.length ≠ 0 := fun e => g1 (Or.inl (List.length_eq_zero_iff.1 e))
        have l2 : other.length ≠ 0 := fun e => g1 (Or.inr (List.length_eq_zero_iff.1 e))
        exact (g2 ⟨by omega, by omega⟩).elim
  | succ k ih =>
    intro one other l a b h1 h2 i1 i2 hof za zb ha hb
    rw [mrg]
    split
    · rename_i h
      exact none_Z h za zb ha hb
    · split
      · rename_i h
        exact one_Z h hof za zb ha hb
      · rw [runs_append', runs_append']
        have w1 : Off (evs one) (evs other) := hof.sub (fun _ => mem_evs) (fun _ => mem_evs)
        have w2 : Off (ods one) (ods other) := hof.sub (fun _ => mem_ods) (fun _ => mem_ods)
        have pw : (2 : Nat) ^ (k + 1) = 2 * 2 ^ k := by rw [Nat.pow_succ]; omega
        have he := ih (evs one) (evs other) l _ _ (by rw [evs_len]; omega) (by rw [evs_len]; omega) i1.evs i2.evs w1 za.evs zb.evs (by rw [evs_len]; omega) (by rw [evs_len]; omega)
        have n1 : ∀ q ∈ mrg (k + 1) (evs one) (evs other), (q.1 ∉ ods one ∧ q.2 ∉ ods one) ∧ (q.1 ∉ ods other ∧ q.2 ∉ ods other) := by
          intro q hq
          obtain ⟨x, y⟩ := mrg_mem _ _ _ q hq
          have go : ∀ n, n ∈ evs one ++ evs other → n ∉ ods one ∧ n ∉ ods other := by
            intro n hn
            rcases List.mem_append.1 hn with hn | hn
            · exact ⟨fun h => i1.off n hn h, fun h => hof n (mem_evs hn) (mem_ods h)⟩
            · exact ⟨fun h => hof n (mem_ods h) (mem_evs hn), fun h => i2.off n hn h⟩
          exact ⟨⟨(go _ x).1, (go _ y).1⟩, ⟨(go _ x).2, (go _ y).2⟩⟩
        have n2 : ∀ q ∈ mrg (k + 1) (ods one) (ods other), q.1 ∉ evs one ++ evs other ∧ q.2 ∉ evs one ++ evs other := by
          intro q hq
          obtain ⟨x, y⟩ := mrg_mem _ _ _ q hq
          have go : ∀ n, n ∈ ods one ++ ods other → n ∉ evs one ++ evs other := by
            intro n hn hm
            rcases List.mem_append.1 hn with hn | hn <;> rcases List.mem_append.1 hm with hm | hm
            · exact i1.off n hm hn
            · exact hof n (mem_ods hn) (mem_evs hm)
            · exact hof n (mem_evs hm) (mem_ods hn)
            · exact i2.off n hm hn
          exact ⟨go _ x, go _ y⟩
        have ho := ih (ods one) (ods other) (runs ltB (mrg (k + 1) (evs one) (evs other)) l) _ _ (by rw [ods_len]; omega) (by rw [ods_len]; omega) i1.ods i2.ods w2 (za.ods.keep fun q hq => (n1 q hq).1) (zb.ods.keep fun q hq => (n1 q hq).2) (by rw [ods_len]; omega) (by rw [ods_len]; omega)
        have he' := he.keep n2
        refine last_Z ha hb (fun n hn => ?_) (inj_app i1 i2 hof) he' ho
        rw [runs_len, runs_len]
        rcases List.mem_append.1 hn with hn | hn
        · obtain ⟨i, hi⟩ := List.getElem?_of_mem hn
          exact (List.getElem?_eq_some_iff.mp (za i n hi)).1
        · obtain ⟨i, hi⟩ := List.getElem?_of_mem hn
          exact (List.getElem?_eq_some_iff.mp (zb i n hi)).1
end Nw
end
section
/-! the two orders: whole numbers, pairs of them -/
namespace Nw
def ltI (a b : Int) : Bool := decide (a < b)
def ltP (p q : Int × Int) : Bool := decide (p.1 < q.1 ∨ (p.1 = q.1 ∧ p.2 < q.2))
theorem ordI : Ord ltI where
  irr x := by simp [ltI]
  tr x y z h1 h2 := by simp only [ltI, decide_eq_true_iff] at *; omega
  co x y z h1 h2 := by simp only [ltI, decide_eq_false_iff_not] at *; omega
theorem ordP : Ord ltP where
  irr x := by simp [ltP]
  tr x y z h1 h2 := by simp only [ltP, decide_eq_true_iff] at *; omega
  co x y z h1 h2 := by simp only [ltP, decide_eq_false_iff_not] at *; omega
theorem antiI (x y : Int) (h1 : ltI x y = false) (h2 : ltI y x = false) : x = y := by
  simp only [ltI, decide_eq_false_iff_not] at *; omega
theorem antiP (x y : Int × Int) (h1 : ltP x y = false) (h2 : ltP y x = false) : x = y := by
  simp only [ltP, decide_eq_false_iff_not] at *
  exact Prod.ext (by omega) (by omega)
theorem leI : (fun x y => !ltI y x) = fun a b : Int => decide (a ≤ b) := by
  funext a b
  rw [Bool.eq_iff_iff]
  simp only [ltI, Bool.not_eq_true', decide_eq_false_iff_not, decide_eq_true_iff]
  omega
theorem leP (p q : Int × Int) : (!ltP q p) = (decide (p.1 < q.1) || (decide (p.1 = q.1) && decide (p.2 ≤ q.2))) := by
  rw [Bool.eq_iff_iff]
  simp only [ltP, Bool.not_eq_true', decide_eq_false_iff_not, Bool.or_eq_true, Bool.and_eq_true, decide_eq_true_iff]
  omega
end Nw
end
section
/-! side by side -/
namespace Nw
section
variable {α : Type} {lt : α → α → Bool}
theorem runs_past (as : List Pr) : ∀ (bs : List Pr), (∀ p ∈ as, ∀ q ∈ bs, dj p q) → ∀ l : List α, runs lt bs (runs lt as l) = runs lt as (runs lt bs l)
  | [], _, _ => rfl
  | b :: bs, h, l => by
    show runs lt bs (step lt (runs lt as l) b) = runs lt as (runs lt bs (step lt l b))
    rw [← runs_comm b as (fun p hp => h p hp b (List.mem_cons_self ..))]
    exact runs_past as bs (fun p hp q hq => h p hp q (List.mem_cons_of_mem _ hq)) _
end
/-- levels of two networks, the one beside the other -/
def sd (so : List Pr → List Pr) : List (List Pr) → List (List Pr) → List (List Pr)
  | [], bs => bs.map so
  | A :: as, [] => so A :: sd so as []
  | A :: as, B :: bs => so (A ++ B) :: sd so as bs
theorem sd_runs {α : Type} {lt : α → α → Bool} (so : List Pr → List Pr) (hso : ∀ L : List Pr, List.Perm L (so L)) : ∀ (as bs : List (List Pr)), (∀ A ∈ as, A.Pairwise dj) → (∀ B ∈ bs, B.Pairwise dj) → (∀ A ∈ as, ∀ p ∈ A, ∀ B ∈ bs, ∀ q ∈ B, dj p q) → ∀ l : List α, runs lt (sd so as bs).flatten l = runs lt bs.flatten (runs lt as.flatten l)
  | [], [], _, _, _, l => rfl
  | [], B :: bs, h1, h2, h3, l => by
    have := sd_runs (lt := lt) so hso [] bs h1 (fun B hB => h2 B (List.mem_cons_of_mem _ hB)) (fun A hA => by cases hA) (runs lt B l)
    show runs lt (so B ++ (sd so [] bs).flatten) l = runs lt (B ++ bs.flatten) l
    rw [runs_append', runs_append', ← runs_level (hso B) (h2 B (List.mem_cons_self ..)), this]
    rfl
  | A :: as, [], h1, h2, h3, l => by
    have := sd_runs (lt := lt) so hso as [] (fun B hB => h1 B (List.mem_cons_of_mem _ hB)) h2 (fun A _ p _ B hB => by cases hB) (runs lt A l)
    show runs lt (so A ++ (sd so as []).flatten) l = runs lt (A ++ as.flatten) l
    rw [runs_append', runs_append', ← runs_level (hso A) (h1 A (List.mem_cons_self ..)), this]
    rfl
  | A :: as, B :: bs, h1, h2, h3, l => by
    have ih := sd_runs (lt := lt) so hso as bs (fun B hB => h1 B (List.mem_cons_of_mem _ hB)) (fun B hB => h2 B (List.mem_cons_of_mem _ hB)) (fun A hA p hp B hB => h3 A (List.mem_cons_of_mem _ hA) p hp B (List.mem_cons_of_mem _ hB))
    have hAB : (A ++ B).Pairwise dj := List.pairwise_append.2 ⟨h1 A (List.mem_cons_self ..), h2 B (List.mem_cons_self ..), fun p hp q hq => h3 A (List.mem_cons_self ..) p hp B (List.mem_cons_self ..) q hq⟩
    show runs lt (so (A ++ B) ++ (sd so as bs).flatten) l = runs lt (B ++ bs.flatten) (runs lt (A ++ as.flatten) l)
    rw [runs_append', ← runs_level (hso _) hAB, ih, runs_append', runs_append', runs_append']
    congr 1
    refine (runs_past as.flatten B ?_ _).symm
    intro p hp q hq
    obtain ⟨A', hA, hp⟩ := List.mem_flatten.1 hp
    exact h3 A' (List.mem_cons_of_mem _ hA) p hp B (List.mem_cons_self ..) q hq
end Nw
end
section
/-! ordering -/
namespace Nw
def ord (so : List Pr → List Pr) : Nat → List Nat → List (List Pr)
  | 0, _ => []
  | k + 1, ps => if ps.length < 2 then [] else
    sd so (ord so k (ps.take (ps.length / 2))) (ord so k (ps.drop (ps.length / 2))) ++ (lvs (mrg (k + 1) (ps.take (ps.length / 2)) (ps.drop (ps.length / 2)))).levels.map so
theorem put_mem (q : Pr) : ∀ (n : Nat) (Ls : List (List Pr)) (L : List Pr), L ∈ put n q Ls → ∀ p ∈ L, p = q ∨ ∃ M ∈ Ls, p ∈ M
  | n, [], L, hL, p, hp => by
    have e : put n q [] = [[q]] := by cases n <;> rfl
    rw [e] at hL
    rw [List.mem_singleton.1 hL] at hp
    exact Or.inl (List.mem_singleton.1 hp)
  | 0, M :: Ls, L, hL, p, hp => by
    rcases List.mem_cons.1 hL with rfl | hL
    · rcases List.mem_append.1 hp with hp | hp
      · exact Or.inr ⟨M, List.mem_cons_self .., hp⟩
      · exact Or.inl (List.mem_singleton.1 hp)
    · exact Or.inr ⟨L, List.mem_cons_of_mem _ hL, hp⟩
  | n + 1, M :: Ls, L, hL, p, hp => by
    rcases List.mem_cons.1 hL with rfl | hL
    · exact Or.inr ⟨_, List.mem_cons_self .., hp⟩
    · rcases put_mem q n Ls L hL p hp with h | ⟨M', h1, h2⟩
      · exact Or.inl h
      · exact Or.inr ⟨M', List.mem_cons_of_mem _ h1, h2⟩
theorem lvs_mem_from (ps : List Pr) : ∀ s : St, ∀ L ∈ (ps.foldl St.add s).levels, ∀ p ∈ L, p ∈ ps ∨ ∃ M ∈ s.levels, p ∈ M := by
  induction ps with
  | nil => exact fun s L hL p hp => Or.inr ⟨L, hL, hp⟩
  | cons q ps ih =>
    intro s L hL p hp
    rcases ih (s.add q) L hL p hp with h | ⟨M, h1, h2⟩
    · exact Or.inl (List.mem_cons_of_mem _ h)
    · rcases put_mem q _ _ M h1 p h2 with rfl | h
      · exact Or.inl (List.mem_cons_self ..)
      · exact Or.inr h
theorem lvs_mem (ps : List Pr) (L : List Pr) (hL : L ∈ (lvs ps).levels) (p : Pr) (hp : p ∈ L) : p ∈ ps := by
  rcases lvs_mem_from ps St.zero L hL p hp with h | ⟨M, h, _⟩
  · exact h
  · cases h
theorem fit_pw {free : Nat → Nat} : ∀ (Ls : List (List Pr)) (k : Nat), Fit free k Ls → ∀ L ∈ Ls, L.Pairwise dj
  | [], _, _, L, hL => by cases hL
  | M :: Ls, k, h, L, hL => by
    rcases List.mem_cons.1 hL with rfl | hL
    · exact h.2.1
    · exact fit_pw Ls (k + 1) h.2.2 L hL
theorem sd_mem (so : List Pr → List Pr) : ∀ (as bs : List (List Pr)) (L : List Pr), L ∈ sd so as bs → ∃ A B : List Pr, L = so (A ++ B) ∧ (A = [] ∨ A ∈ as) ∧ (B = [] ∨ B ∈ bs)
  | [], bs, L, hL => by
    obtain ⟨B, hB, rfl⟩ := List.mem_map.1 hL
    exact ⟨[], B, rfl, Or.inl rfl, Or.inr hB⟩
  | A :: as, [], L, hL => by
    rcases List.mem_cons.1 hL with rfl | hL
    · exact ⟨A, [], by simp, Or.inr (List.mem_cons_self ..), Or.inl rfl⟩
    · obtain ⟨A', B', h1, h2, h3⟩ := sd_mem so as [] L hL
      exact ⟨A', B', h1, h2.imp id (List.mem_cons_of_mem _), h3⟩
  | A :: as, B :: bs, L, hL => by
    rcases List.mem_cons.1 hL with rfl | hL
    · exact ⟨A, B, rfl, Or.inr (List.mem_cons_self ..), Or.inr (List.mem_cons_self ..)⟩
    · obtain ⟨A', B', h1, h2, h3⟩ := sd_mem so as bs L hL
      exact ⟨A', B', h1, h2.imp id (List.mem_cons_of_mem _), h3.imp id (List.mem_cons_of_mem _)⟩
end Nw
end
section
namespace Nw
theorem inj_take {ps : List Nat} (h : Inj ps) (n : Nat) : Inj (ps.take n) := by
  intro i j m h1 h2
  rw [List.getElem?_take] at h1 h2
  split at h1 <;> split at h2 <;> first | exact h i j m h1 h2 | simp at h1 h2
theorem inj_drop {ps : List Nat} (h : Inj ps) (n : Nat) : Inj (ps.drop n) := by
  intro i j m h1 h2
  rw [List.getElem?_drop] at h1 h2
  have := h _ _ m h1 h2
  omega
theorem off_half {ps : List Nat} (h : Inj ps) (n : Nat) : Off (ps.take n) (ps.drop n) := by
  intro m h1 h2
  obtain ⟨i, h1⟩ := List.getElem?_of_mem h1
  obtain ⟨j, h2⟩ := List.getElem?_of_mem h2
  rw [List.getElem?_take] at h1
  rw [List.getElem?_drop] at h2
  split at h1
  · have := h _ _ m h1 h2; omega
  · cases h1
/-- levels among these places -/
def Ok (ps : List Nat) (Ls : List (List Pr)) : Prop := ∀ L ∈ Ls, L.Pairwise dj ∧ ∀ p ∈ L, p.1 ∈ ps ∧ p.2 ∈ ps
theorem pw_so {so : List Pr → List Pr} (hso : ∀ L : List Pr, List.Perm L (so L)) {L : List Pr} (h : L.Pairwise dj) : (so L).Pairwise dj :=
  ((hso L).pairwise_iff (fun {_ _} h => dj_symm h)).1 h
theorem ok_off {one other : List Nat} {as bs : List (List Pr)} (ho : Off one other) (h1 : Ok one as) (h2 : Ok other bs) : ∀ A ∈ as, ∀ p ∈ A, ∀ B ∈ bs, ∀ q ∈ B, dj p q := by
  intro A hA p hp B hB q hq
  obtain ⟨x, y⟩ := (h1 A hA).2 p hp
  obtain ⟨z, w⟩ := (h2 B hB).2 q hq
  exact ⟨fun e => ho _ x (e ▸ z), fun e => ho _ x (e ▸ w), fun e => ho _ y (e ▸ z), fun e => ho _ y (e ▸ w)⟩
theorem ord_ok {so : List Pr → List Pr} (hso : ∀ L : List Pr, List.Perm L (so L)) : ∀ (k : Nat) (ps : List Nat), Inj ps → Ok ps (ord so k ps) := by
  intro k
  induction k with
  | zero => intro ps _ L hL; cases hL
  | succ k ih =>
    intro ps hi L hL
    rw [ord] at hL
    split at hL
    · cases hL
    · have o1 := ih _ (inj_take hi (ps.length / 2))
      have o2 := ih _ (inj_drop hi (ps.length / 2))
      have hof := off_half hi (ps.length / 2)
      rcases List.mem_append.1 hL with hL | hL
      · obtain ⟨A, B, rfl, hA, hB⟩ := sd_mem so _ _ L hL
        have a1 : A.Pairwise dj ∧ ∀ p ∈ A, p.1 ∈ ps.take (ps.length / 2) ∧ p.2 ∈ ps.take (ps.length / 2) := by
          rcases hA with rfl | hA
          · exact ⟨List.Pairwise.nil, fun p hp => by cases hp⟩
          · exact o1 A hA
        have b1 : B.Pairwise dj ∧ ∀ p ∈ B, p.1 ∈ ps.drop (ps.length / 2) ∧ p.2 ∈ ps.drop (ps.length / 2) := by
          rcases hB with rfl | hB
          · exact ⟨List.Pairwise.nil, fun p hp => by cases hp⟩
          · exact o2 B hB
        refine ⟨pw_so hso (List.pairwise_append.2 ⟨a1.1, b1.1, fun p hp q hq => ?_⟩), fun p hp => ?_⟩
        · obtain ⟨x, y⟩ := a1.2 p hp
          obtain ⟨z, w⟩ := b1.2 q hq
          exact ⟨fun e => hof _ x (e ▸ z), fun e => hof _ x (e ▸ w), fun e => hof _ y (e ▸ z), fun e => hof _ y (e ▸ w)⟩
        · rcases List.mem_append.1 ((hso _).mem_iff.2 hp) with hp | hp
          · exact ⟨List.mem_of_mem_take (a1.2 p hp).1, List.mem_of_mem_take (a1.2 p hp).2⟩
          · exact ⟨List.mem_of_mem_drop (b1.2 p hp).1, List.mem_of_mem_drop (b1.2 p hp).2⟩
      · obtain ⟨M, hM, rfl⟩ := List.mem_map.1 hL
        refine ⟨pw_so hso (fit_pw _ _ (lvs_good _).fit M hM), fun p hp => ?_⟩
        have := mrg_mem _ _ _ p (lvs_mem _ M hM p ((hso _).mem_iff.2 hp))
        rw [List.take_append_drop] at this
        exact this
end Nw
end
section
namespace Nw
theorem z_one {l : List Bool} {ps : List Nat} (h : ps.length < 2) (hin : ∀ n ∈ ps, n < l.length) : ∃ z, z ≤ ps.length ∧ Z l ps z := by
  match ps, h, hin with
  | [], _, _ => exact ⟨0, Nat.le_refl _, fun i n hn => by simp at hn⟩
  | [x], _, hin =>
    have hx := hin x (List.mem_singleton.2 rfl)
    cases hb : l[x] with
    | true =>
      refine ⟨0, by simp, fun i n hn => ?_⟩
      match i, hn with
      | 0, hn =>
        have e : x = n := by simpa using hn
        subst e
        rw [List.getElem?_eq_getElem hx, hb]; rfl
      | i + 1, hn => simp at hn
    | false =>
      refine ⟨1, by simp, fun i n hn => ?_⟩
      match i, hn with
      | 0, hn =>
        have e : x = n := by simpa using hn
        subst e
        rw [List.getElem?_eq_getElem hx, hb]; rfl
      | i + 1, hn => simp at hn
theorem ord_Z {so : List Pr → List Pr} (hso : ∀ L : List Pr, List.Perm L (so L)) : ∀ (k : Nat) (ps : List Nat) (l : List Bool), ps.length ≤ 2 ^ k → Inj ps → (∀ n ∈ ps, n < l.length) → ∃ z, z ≤ ps.length ∧ Z (runs ltB (ord so k ps).flatten l) ps z := by
  intro k
  induction k with
  | zero => exact fun ps l h hi hin => z_one (by simp at h; omega) hin
  | succ k ih =>
    intro ps l hl hi hin
    rw [ord]
    split
    · rename_i h
      exact z_one h hin
    · rename_i hge
      have pw : (2 : Nat) ^ (k + 1) = 2 * 2 ^ k := by rw [Nat.pow_succ]; omega
      have i1 := inj_take hi (ps.length / 2)
      have i2 := inj_drop hi (ps.length / 2)
      have hof := off_half hi (ps.length / 2)
      have o1 := ord_ok hso k _ i1
      have o2 := ord_ok hso k _ i2
      have hsd := sd_runs (lt := ltB) so hso _ _ (fun A hA => (o1 A hA).1) (fun B hB => (o2 B hB).1) (ok_off hof o1 o2) l
      have len1 : (ps.take (ps.length / 2)).length ≤ 2 ^ k := by rw [List.length_take]; omega
      have len2 : (ps.drop (ps.length / 2)).length ≤ 2 ^ k := by rw [List.length_drop]; omega
      obtain ⟨a, ha, za⟩ := ih _ l len1 i1 (fun n hn => hin n (List.mem_of_mem_take hn))
      obtain ⟨b, hb, zb⟩ := ih (ps.drop (ps.length / 2)) (runs ltB (ord so k (ps.take (ps.length / 2))).flatten l) len2 i2 (fun n hn => by rw [runs_len]; exact hin n (List.mem_of_mem_drop hn))
      have za' := za.keep (qs := (ord so k (ps.drop (ps.length / 2))).flatten) (fun q hq => by
        obtain ⟨B, hB, hq⟩ := List.mem_flatten.1 hq
        obtain ⟨x, y⟩ := (o2 B hB).2 q hq
        exact ⟨fun h => hof _ h x, fun h => hof _ h y⟩)
      have := mrg_Z k _ _ _ a b len1 len2 i1 i2 hof za' zb ha hb
      rw [List.take_append_drop] at this
      refine ⟨a + b, ?_, ?_⟩
      · rw [List.length_take] at ha
        rw [List.length_drop] at hb
        omega
      · rw [List.flatten_append, runs_append', hsd, levels_perm so hso _ 0 (lvs_good _).fit, lvs_runs]
        exact this
end Nw
end
section
namespace Nw
theorem inj_range (n : Nat) : Inj (List.range n) := by
  intro i j m h1 h2
  rw [List.getElem?_range] at h1 h2
  · simp at h1 h2; omega
  · have := (List.getElem?_eq_some_iff.mp h2).1; simpa using this
  · have := (List.getElem?_eq_some_iff.mp h1).1; simpa using this
theorem srt_Z {l : List Bool} {z : Nat} (h : Z l (List.range l.length) z) : Srt ltB l := by
  intro i j x y hij h1 h2
  have hi := (List.getElem?_eq_some_iff.mp h1).1
  have hj := (List.getElem?_eq_some_iff.mp h2).1
  have e1 := h i i (List.getElem?_range hi)
  have e2 := h j j (List.getElem?_range hj)
  rw [h1] at e1
  rw [h2] at e2
  rw [Option.some.inj e1, Option.some.inj e2]
  by_cases hz : z ≤ i
  · have : z ≤ j := by omega
    simp [ltB, this]
  · simp [ltB, hz]
/-- the network puts any row in order -/
theorem ord_sorts {α : Type} {lt : α → α → Bool} (o : Ord lt) (anti : ∀ x y, lt x y = false → lt y x = false → x = y) {so : List Pr → List Pr} (hso : ∀ L : List Pr, List.Perm L (so L)) (k : Nat) (l : List α) (hl : l.length ≤ 2 ^ k) : runs lt (ord so k (List.range l.length)).flatten l = l.mergeSort fun x y => !lt y x := by
  refine srt_merge o anti (zero_one o _ _ fun t => ?_) (runs_perm _ _)
  obtain ⟨z, _, hz⟩ := ord_Z hso k (List.range l.length) (l.map fun x => lt t x) (by simpa using hl) (inj_range _) (fun n hn => by simpa using hn)
  have e : l.length = (runs ltB (ord so k (List.range l.length)).flatten (l.map fun x => lt t x)).length := by rw [runs_len]; simp
  refine srt_Z (z := z) ?_
  rw [← e]
  exact hz
/-- .. and so do its comparators, levelled anew -/
theorem lvs_sorts {α : Type} {lt : α → α → Bool} (o : Ord lt) (anti : ∀ x y, lt x y = false → lt y x = false → x = y) {so : List Pr → List Pr} (hso : ∀ L : List Pr, List.Perm L (so L)) (k : Nat) (l : List α) (hl : l.length ≤ 2 ^ k) : runs lt ((lvs (ord so k (List.range l.length)).flatten).levels.map so).flatten l = l.mergeSort fun x y => !lt y x := by
  rw [levels_perm so hso _ 0 (lvs_good _).fit, lvs_runs, ord_sorts o anti hso k l hl]
theorem nb_sorts {α : Type} {lt : α → α → Bool} (o : Ord lt) (anti : ∀ x y, lt x y = false → lt y x = false → x = y) (l : List α) : runs lt (nb l.length l.length) l = l.mergeSort fun x y => !lt y x :=
  srt_merge o anti (nb_srt o l) (runs_perm _ _)
end Nw
end
section
/-! sizes and forms of the network: plain -/
namespace Nw
/-! ascending places make ascending pairs -/
def Asc (l : List Nat) : Prop := ∀ (i j a b : Nat), i < j → l[i]? = some a → l[j]? = some b → a < b
theorem Asc.evs {l : List Nat} (h : Asc l) : Asc (Nw.evs l) := by
  intro i j a b hij h1 h2
  rw [evs_get] at h1 h2
  exact h _ _ a b (by omega) h1 h2
theorem Asc.ods {l : List Nat} (h : Asc l) : Asc (Nw.ods l) := by
  intro i j a b hij h1 h2
  rw [ods_get] at h1 h2
  exact h _ _ a b (by omega) h1 h2
theorem Asc.inj {l : List Nat} (h : Asc l) : Inj l := by
  intro i j n h1 h2
  rcases Nat.lt_trichotomy i j with g | g | g
  · exact absurd (h i j n n g h1 h2) (Nat.lt_irrefl _)
  · exact g
  · exact absurd (h j i n n g h2 h1) (Nat.lt_irrefl _)
theorem asc_take {l : List Nat} (h : Asc l) (n : Nat) : Asc (l.take n) := by
  intro i j a b hij h1 h2
  rw [List.getElem?_take] at h1 h2
  split at h1 <;> split at h2 <;> first | exact h i j a b hij h1 h2 | simp at h1 h2
theorem asc_drop {l : List Nat} (h : Asc l) (n : Nat) : Asc (l.drop n) := by
  intro i j a b hij h1 h2
  rw [List.getElem?_drop] at h1 h2
  exact h _ _ a b (by omega) h1 h2
/-- all of one ahead of all of other -/
def Ahead (l m : List Nat) : Prop := ∀ a ∈ l, ∀ b ∈ m, a < b
theorem asc_app {l m : List Nat} (h1 : Asc l) (h2 : Asc m) (h3 : Ahead l m) : Asc (l ++ m) := by
  intro i j a b hij hi hj
  rw [List.getElem?_append] at hi hj
  split at hi <;> split at hj
  · exact h1 i j a b hij hi hj
  · exact h3 a (List.mem_of_getElem? hi) b (List.mem_of_getElem? hj)
  · omega
  · exact h2 _ _ a b (by omega) hi hj
theorem asc_ahead {l : List Nat} (h : Asc l) (n : Nat) : Ahead (l.take n) (l.drop n) := by
  intro a ha b hb
  obtain ⟨i, ha⟩ := List.getElem?_of_mem ha
  obtain ⟨j, hb⟩ := List.getElem?_of_mem hb
  rw [List.getElem?_take] at ha
  rw [List.getElem?_drop] at hb
  split at ha
  · exact h i (n + j) a b (by omega) ha hb
  · cases ha
theorem mrg_lt : ∀ (k : Nat) (one other : List Nat), Asc one → Asc other → Ahead one other → ∀ p ∈ mrg k one other, p.1 < p.2
  | 0, _, _, _, _, _, p, h => by cases h
  | k + 1, one, other, h1, h2, h3, p, h => by
    unfold mrg at h
    split at h
    · cases h
    · split at h
      · obtain ⟨i, a, b⟩ := (zp_mem _ _ _).1 h
        exact h3 _ (List.mem_of_getElem? a) _ (List.mem_of_getElem? b)
      · rcases List.mem_append.1 h with h | h
        · rcases List.mem_append.1 h with h | h
          · exact mrg_lt k _ _ h1.evs h2.evs (fun a ha b hb => h3 a (mem_evs ha) b (mem_evs hb)) p h
          · exact mrg_lt k _ _ h1.ods h2.ods (fun a ha b hb => h3 a (mem_ods ha) b (mem_ods hb)) p h
        · obtain ⟨i, a, b⟩ := last_mem.1 h
          exact asc_app h1 h2 h3 _ _ _ _ (by omega) a b
/-! how many levels -/
theorem add_free {s : St} {q : Pr} {i : Nat} (h1 : q.1 ≠ i) (h2 : q.2 ≠ i) : (s.add q).free i = s.free i := by
  show fr s.free _ q i = _
  unfold fr
  rw [if_neg (by rintro (rfl | rfl) <;> contradiction)]
theorem adds_free {i : Nat} (ps : List Pr) : ∀ s : St, (∀ q ∈ ps, q.1 ≠ i ∧ q.2 ≠ i) → (ps.foldl St.add s).free i = s.free i := by
  induction ps with
  | nil => intro s _; rfl
  | cons q ps ih =>
    intro s h
    have hq := h q (List.mem_cons_self ..)
    exact (ih (s.add q) fun r hr => h r (List.mem_cons_of_mem _ hr)).trans (add_free hq.1 hq.2)
/-- the state's levels, as many as told -/
structure Low (s : St) (P : List Nat) (c M : Nat) : Prop where
  good : Good s
  low : ∀ i ∈ P, s.free i ≤ c
  len : s.levels.length ≤ M
theorem low_add {s : St} {P : List Nat} {c M : Nat} (h : Low s P c M) {q : Pr} (h1 : q.1 ∈ P) (h2 : q.2 ∈ P) (hM : c + 1 ≤ M) : Low (s.add q) P (c + 1) M := by
  have a := h.low _ h1
  have b := h.low _ h2
  refine ⟨good_add h.good q, fun i hi => ?_, ?_⟩
  · show fr s.free _ q i ≤ _
    unfold fr
    have := h.low i hi
    split <;> omega
  · show (put _ q s.levels).length ≤ _
    rw [put_len q _ _ (Nat.max_le.2 ⟨h.good.le _, h.good.le _⟩)]
    have := h.len
    omega
/-- a layer of pairs that share no place: one level more at most -/
theorem low_layer {M c : Nat} (hM : c + 1 ≤ M) (ps : List Pr) : ps.Pairwise dj → ∀ (s : St), Good s → s.levels.length ≤ M → (∀ q ∈ ps, s.free q.1 ≤ c ∧ s.free q.2 ≤ c) → ∀ P : List Nat, (∀ i ∈ P, s.free i ≤ c + 1) → Low (ps.foldl St.add s) P (c + 1) M := by
  induction ps with
  | nil => exact fun _ s hg hl _ P hP => ⟨hg, hP, hl⟩
  | cons q ps ih =>
    intro hd s hg hl hq P hP
    obtain ⟨hd1, hd2⟩ := List.pairwise_cons.1 hd
    have h1 := hq q (List.mem_cons_self ..)
    refine ih hd2 (s.add q) (good_add hg q) ?_ (fun r hr => ?_) P (fun i hi => ?_)
    · show (put _ q s.levels).length ≤ _
      rw [put_len q _ _ (Nat.max_le.2 ⟨hg.le _, hg.le _⟩)]
      omega
    · have d := hd1 r hr
      rw [add_free d.1 d.2.2.1, add_free d.2.1 d.2.2.2]
      exact hq r (List.mem_cons_of_mem _ hr)
    · show fr s.free _ q i ≤ _
      have := hP i hi
      unfold fr
      split <;> omega
theorem mrg_low : ∀ (k : Nat) (one other : List Nat), Inj one → Inj other → Off one other → ∀ (s : St) (c M : Nat), c + k ≤ M → Low s (one ++ other) c M → Low ((mrg k one other).foldl St.add s) (one ++ other) (c + k) M
  | 0, one, other, _, _, _, s, c, M, _, h => h
  | k + 1, one, other, i1, i2, hof, s, c, M, hM, h => by
    have weak : Low s (one ++ other) (c + (k + 1)) M := ⟨h.good, fun i hi => by have := h.low i hi; omega, h.len⟩
    unfold mrg
    split
    · exact weak
    · split
      · rename_i g
        obtain ⟨x, rfl⟩ := List.length_eq_one_iff.1 g.1
        obtain ⟨y, rfl⟩ := List.length_eq_one_iff.1 g.2
        have := low_add (q := (x, y)) h (by simp) (by simp) (by omega)
        refine ⟨this.good, fun i hi => ?_, this.len⟩
        have e : ((zp [x] [y]).foldl St.add s).free i ≤ c + 1 := this.low i hi
        omega
      · rw [List.foldl_append, List.foldl_append]
        have w1 : Off (evs one) (evs other) := hof.sub (fun _ => mem_evs) (fun _ => mem_evs)
        have w2 : Off (ods one) (ods other) := hof.sub (fun _ => mem_ods) (fun _ => mem_ods)
        have sub1 : ∀ i, i ∈ evs one ++ evs other → i ∈ one ++ other := fun i hi => by
          rcases List.mem_append.1 hi with hi | hi
          · exact List.mem_append_left _ (mem_evs hi)
          · exact List.mem_append_right _ (mem_evs hi)
        have sub2 : ∀ i, i ∈ ods one ++ ods other → i ∈ one ++ other := fun i hi => by
          rcases List.mem_append.1 hi with hi | hi
          · exact List.mem_append_left _ (mem_ods hi)
          · exact List.mem_append_right _ (mem_ods hi)
        have hoff : ∀ i, i ∈ evs one ++ evs other → i ∈ ods one ++ ods other → False := fun i a b => by
          rcases List.mem_append.1 a with a | a <;> rcases List.mem_append.1 b with b | b
          · exact i1.off i a b
          · exact hof i (mem_evs a) (mem_ods b)
          · exact hof i (mem_ods b) (mem_evs a)
          · exact i2.off i a b
        have e1 := mrg_low k (evs one) (evs other) i1.evs i2.evs w1 s c M (by omega) ⟨h.good, fun i hi => h.low i (sub1 i hi), h.len⟩
        generalize hs1 : (mrg k (evs one) (evs other)).foldl St.add s = s1 at e1
        have f1 : ∀ i, i ∉ evs one ++ evs other → s1.free i = s.free i := fun i hi => by
          rw [← hs1]
          refine adds_free _ _ fun q hq => ?_
          obtain ⟨a, b⟩ := mrg_mem _ _ _ q hq
          exact ⟨fun e => hi (e ▸ a), fun e => hi (e ▸ b)⟩
        have e2 := mrg_low k (ods one) (ods other) i1.ods i2.ods w2 s1 c M (by omega) ⟨e1.good, fun i hi => by rw [f1 i (fun g => hoff i g hi)]; exact h.low i (sub2 i hi), e1.len⟩
        generalize hs2 : (mrg k (ods one) (ods other)).foldl St.add s1 = s2 at e2
        have f2 : ∀ i, i ∉ ods one ++ ods other → s2.free i = s1.free i := fun i hi => by
          rw [← hs2]
          refine adds_free _ _ fun q hq => ?_
          obtain ⟨a, b⟩ := mrg_mem _ _ _ q hq
          exact ⟨fun e => hi (e ▸ a), fun e => hi (e ▸ b)⟩
        have all : ∀ i ∈ one ++ other, s2.free i ≤ c + k := fun i hi => by
          by_cases g2 : i ∈ ods one ++ ods other
          · exact e2.low i g2
          · rw [f2 i g2]
            by_cases g1 : i ∈ evs one ++ evs other
            · exact e1.low i g1
            · rw [f1 i g1]
              have := h.low i hi
              omega
        refine low_layer (c := c + k) hM _ (last_dj (inj_app i1 i2 hof)) s2 e2.good e2.len (fun q hq => ?_) _ (fun i hi => by have := all i hi; omega)
        obtain ⟨j, a, b⟩ := last_mem.1 hq
        exact ⟨all _ (List.mem_of_getElem? a), all _ (List.mem_of_getElem? b)⟩
theorem lvs_len (k : Nat) (one other : List Nat) (i1 : Inj one) (i2 : Inj other) (hof : Off one other) : (lvs (mrg k one other)).levels.length ≤ k := by
  have := (mrg_low k one other i1 i2 hof St.zero 0 k (by omega) ⟨good_zero, fun i _ => Nat.le_refl _, Nat.zero_le _⟩).len
  exact this
theorem sd_len (so : List Pr → List Pr) : ∀ as bs : List (List Pr), (sd so as bs).length = max as.length bs.length
  | [], bs => by simp [sd]
  | A :: as, [] => by simp [sd, sd_len so as []]
  | A :: as, B :: bs => by simp only [sd, List.length_cons, sd_len so as bs]; omega
theorem ord_len {so : List Pr → List Pr} : ∀ (k : Nat) (ps : List Nat), Inj ps → (ord so k ps).length ≤ k * k + k
  | 0, ps, _ => by simp [ord]
  | k + 1, ps, hi => by
    rw [ord]
    split
    · simp
    · rw [List.length_append, sd_len, List.length_map]
      have h1 := ord_len (so := so) k (ps.take (ps.length / 2)) (inj_take hi _)
      have h2 := ord_len (so := so) k (ps.drop (ps.length / 2)) (inj_drop hi _)
      have h3 := lvs_len (k + 1) _ _ (inj_take hi _) (inj_drop hi _) (off_half hi (ps.length / 2))
      have e : (k + 1) * (k + 1) = k * k + 2 * k + 1 := by rw [Nat.mul_add, Nat.add_mul]; omega
      omega
/-! levels of ascending pairs among the places -/
theorem ord_asc {so : List Pr → List Pr} (hso : ∀ L : List Pr, List.Perm L (so L)) : ∀ (k : Nat) (ps : List Nat), Asc ps → ∀ L ∈ ord so k ps, ∀ p ∈ L, p.1 < p.2 := by
  intro k
  induction k with
  | zero => intro ps _ L hL; cases hL
  | succ k ih =>
    intro ps hi L hL p hp
    rw [ord] at hL
    split at hL
    · cases hL
    · rcases List.mem_append.1 hL with hL | hL
      · obtain ⟨A, B, rfl, hA, hB⟩ := sd_mem so _ _ L hL
        rcases List.mem_append.1 ((hso _).mem_iff.2 hp) with hp | hp
        · rcases hA with rfl | hA
          · cases hp
          · exact ih _ (asc_take hi _) A hA p hp
        · rcases hB with rfl | hB
          · cases hp
          · exact ih _ (asc_drop hi _) B hB p hp
      · obtain ⟨M, hM, rfl⟩ := List.mem_map.1 hL
        exact mrg_lt _ _ _ (asc_take hi _) (asc_drop hi _) (asc_ahead hi _) p (lvs_mem _ M hM p ((hso _).mem_iff.2 hp))
theorem ord_so {so : List Pr → List Pr} : ∀ (k : Nat) (ps : List Nat), ∀ L ∈ ord so k ps, ∃ M, L = so M := by
  intro k
  have hsd : ∀ (as bs : List (List Pr)) (L : List Pr), L ∈ sd so as bs → ∃ M, L = so M := fun as bs L hL => by
    obtain ⟨A, B, rfl, _, _⟩ := sd_mem so as bs L hL
    exact ⟨_, rfl⟩
  cases k with
  | zero => intro ps L hL; cases hL
  | succ k =>
    intro ps L hL
    rw [ord] at hL
    split at hL
    · cases hL
    · rcases List.mem_append.1 hL with hL | hL
      · exact hsd _ _ L hL
      · obtain ⟨M, _, rfl⟩ := List.mem_map.1 hL
        exact ⟨M, rfl⟩
theorem asc_range (n : Nat) : Asc (List.range n) := by
  intro i j a b hij h1 h2
  have g1 := (List.getElem?_eq_some_iff.mp h1).2
  have g2 := (List.getElem?_eq_some_iff.mp h2).2
  simp at g1 g2
  omega
/-- places of a level, all unlike -/
theorem dj_places : ∀ L : List Pr, L.Pairwise dj → (∀ p ∈ L, p.1 ≠ p.2) → (L.flatMap fun p => [p.1, p.2]).Nodup
  | [], _, _ => by simp
  | q :: L, h, h2 => by
    obtain ⟨d1, d2⟩ := List.pairwise_cons.1 h
    have ih := dj_places L d2 fun p hp => h2 p (List.mem_cons_of_mem _ hp)
    rw [List.flatMap_cons]
    refine List.nodup_append.2 ⟨?_, ih, ?_⟩
    · simp [h2 q (List.mem_cons_self ..)]
    · intro a ha b hb e
      subst e
      obtain ⟨p, hp, hm⟩ := List.mem_flatMap.1 hb
      have d := d1 p hp
      simp only [List.mem_cons, List.not_mem_nil, or_false] at ha hm
      rcases ha with rfl | rfl <;> rcases hm with e | e
      · exact d.1 e
      · exact d.2.1 e
      · exact d.2.2.1 e
      · exact d.2.2.2 e
theorem nodup_short : ∀ (n : Nat) (l : List Nat), l.Nodup → (∀ a ∈ l, a < n) → l.length ≤ n
  | 0, [], _, _ => Nat.le_refl _
  | 0, a :: l, _, h => by have := h a (List.mem_cons_self ..); omega
  | n + 1, l, hd, h => by
    have h1 := nodup_short n (l.erase n) (hd.erase n) fun a ha => by
      have h2 := h a (List.mem_of_mem_erase ha)
      have h3 : a ≠ n := (hd.mem_erase_iff.1 ha).1
      omega
    rw [List.length_erase] at h1
    split at h1 <;> omega
/-- a level is short -/
theorem level_short {L : List Pr} {n : Nat} (h : L.Pairwise dj) (hlt : ∀ p ∈ L, p.1 < p.2) (hn : ∀ p ∈ L, p.2 < n) : 2 * L.length ≤ n := by
  have nd := dj_places L h fun p hp => Nat.ne_of_lt (hlt p hp)
  have len : ∀ L : List Pr, (L.flatMap fun p => [p.1, p.2]).length = 2 * L.length := fun L => by
    induction L with
    | nil => rfl
    | cons q L ih => rw [List.flatMap_cons, List.length_append, ih]; simp; omega
  have sub := nodup_short n _ nd fun a ha => by
    obtain ⟨p, hp, hm⟩ := List.mem_flatMap.1 ha
    have := hlt p hp
    have := hn p hp
    simp only [List.mem_cons, List.not_mem_nil, or_false] at hm
    rcases hm with rfl | rfl <;> omega
  rw [len] at sub
  exact sub
end Nw
end
section
set_option maxRecDepth 100000
set_option autoImplicit false
set_option maxHeartbeats 4000000
/-! networks: the walk of their forms -/
namespace EV
open PySem L2 Nw
abbrev nI (n : Nat) : EV.D := .int (n : Int)
abbrev prD (p : Pr) : EV.D := .tup [.int (p.1 : Int), .int (p.2 : Int)]
abbrev lvD (L : List Pr) : EV.D := .tup (L.map prD)
theorem prD_fine (p : Pr) : D.fine 1 (prD p) = true := rfl
theorem lvD_fine (L : List Pr) : D.fine 2 (lvD L) = true := by
  show D.fines 1 (L.map prD) = true
  exact fines_map fun p _ => prD_fine p
theorem netD_fine (Ls : List (List Pr)) : D.fine 3 (.tup (Ls.map lvD)) = true := by
  show D.fines 2 (Ls.map lvD) = true
  exact fines_map fun L _ => lvD_fine L
section
variable {pg : Pg} {x : Ix}
theorem is_integer_run (h0 : pg.defs[x.f F.is_integer]? = some (Df_is_integer x)) {J : Nat} (hJ : 1 ≤ J) (i : Int) (B : Nat) (S : Sto) : run pg J (x.f F.is_integer) [.int i] B S = some (.bl true, S) := by
  obtain ⟨J, rfl⟩ : ∃ j, J = j + 1 := ⟨J - 1, by omega⟩
  refine run_d h0 (S' := S) (d := .bl true) rfl ?_ (by simp [fin, EV.D.under])
  simp [B_is_integer, excs, exc, ev, evs, dOf_d, dOf_fl, tOf_some, bfun, b2, isInst, isK, kindOk, tyOk, truth]
theorem is_within_run (h0 : pg.defs[x.f F.is_integer]? = some (Df_is_integer x)) (h1 : pg.defs[x.f F.is_within]? = some (Df_is_within x)) {J : Nat} (hJ : 2 ≤ J) (i a b : Int) (B : Nat) (S : Sto) : run pg J (x.f F.is_within) [.int i, .int a, .int b] B S = some (.bl (decide (a ≤ i) && decide (i ≤ b)), S) := by
  obtain ⟨J, rfl⟩ : ∃ j, J = j + 1 := ⟨J - 1, by omega⟩
  have h2 := fun B S => is_integer_run (pg := pg) (x := x) h0 (J := J) (by omega) i B S
  refine run_d h1 (S' := S) (d := .bl (decide (a ≤ i) && decide (i ≤ b))) rfl ?_ (by simp [fin, EV.D.under])
  by_cases h : a ≤ i
  · simp [B_is_within, excs, exc, ev, evs, dOf_d, dOf_fl, tOf_some, truth, h2, cmpop, ltD, h]
  · simp [B_is_within, excs, exc, ev, evs, dOf_d, dOf_fl, tOf_some, truth, h2, cmpop, ltD, h]
end
end EV
end
section
set_option maxRecDepth 100000
set_option autoImplicit false
set_option maxHeartbeats 4000000
namespace EV
open PySem L2 Nw
/-- a dict comprehension over keys all unlike -/
theorem dc_new {α : Type} {tg : EV.D → En → Sto → Option (En × Sto)} {tst : En → Sto → Option (Bool × Sto)} {kx vx : En → Sto → Option (EV.D × Sto)} {ws : List Nat} {ρ : En} {S0 S : Sto} (enc val : α → EV.D) (key : α → Key) (hst : stay ws S0 S = true) :
    ∀ (xs : List α) (acc : List (Key × EV.D)), (∀ a ∈ xs, ∃ ρ' kd, tg (enc a) ρ S = some (ρ', S) ∧ tst ρ' S = some (true, S) ∧ kx ρ' S = some (kd, S) ∧ kd.key = some (key a) ∧ vx ρ' S = some (val a, S)) →
      ((acc.map (·.1)) ++ xs.map key).Nodup → acc.length + xs.length ≤ sizeLine →
      dcGo tg tst kx vx ws S0 ρ (xs.map enc) acc S = some (acc ++ xs.map fun a => (key a, val a), S)
  | [], acc, _, _, _ => by simp [dcGo, hst]
  | a :: xs, acc, h, hd, hl => by
    obtain ⟨ρ', kd, h1, h2, h3, h4, h5⟩ := h a (List.mem_cons_self ..)
    simp only [List.length_cons] at hl
    have hn : acc.any (fun kv => decide (kv.1 = key a)) = false := by
      rw [List.any_eq_false]
      intro kv hkv e
      have e : kv.1 = key a := by simpa using e
      rw [List.map_cons] at hd
      exact (List.nodup_append.1 hd).2.2 kv.1 (List.mem_map_of_mem hkv) (key a) (List.mem_cons_self ..) e
    simp only [List.map_cons, dcGo, hst, if_true, h1, h2, h3, h4, h5, Option.bind_some]
    have hp : putG acc (key a) (val a) = acc ++ [(key a, val a)] := by unfold putG; simp [hn]
    rw [if_pos (by omega), hp, dc_new enc val key hst xs (acc ++ [(key a, val a)]) (fun b hb => h b (List.mem_cons_of_mem _ hb)) (by simpa using hd) (by simp; omega)]
    simp
section
variable {pg : Pg} {x : Ix}
structure FormFns (pg : Pg) (x : Ix) : Prop where
  is_integer : pg.defs[x.f F.is_integer]? = some (Df_is_integer x)
  is_within : pg.defs[x.f F.is_within]? = some (Df_is_within x)
structure NetForm (pg : Pg) (x : Ix) : Prop extends FormFns pg x where
  is_pair : pg.defs[x.f F.is_pair]? = some (Df_is_pair x)
  is_level : pg.defs[x.f F.is_level]? = some (Df_is_level x)
  is_network : pg.defs[x.f F.is_network]? = some (Df_is_network x)
  PAIR : pg.con (x.c C.PAIR) = some (.int 2)
  MOST_LEVELS : pg.con (x.c C.MOST_LEVELS) = some (.int 300)
theorem eqD_ints {S : Sto} (i j : Int) : eqD S (.int i) (.int j) = some (decide (i = j)) := by
  rw [eqD_fine (n := 0) (by omega) rfl rfl]
  congr 1
  rw [decide_eq_decide]
  exact ⟨fun h => by injection h, fun h => by rw [h]⟩
theorem atI_nat {α : Type} {xs : List α} {n : Nat} {a : α} (h : xs[n]? = some a) : atI xs (n : Int) = some a := by
  have hl := (List.getElem?_eq_some_iff.mp h).1
  unfold atI ixN
  rw [if_pos (by omega), if_pos (by omega)]
  simpa using h
theorem itemAt_pr0 {S : Sto} (a b : EV.D) : itemAt S (.tup [a, b]) (.int 0) = some a := rfl
theorem itemAt_pr1 {S : Sto} (a b : EV.D) : itemAt S (.tup [a, b]) (.int 1) = some b := rfl
theorem is_pair_run (H : NetForm pg x) {J : Nat} (hJ : 3 ≤ J) (many : Nat) (p : Pr) (B : Nat) (S : Sto) : run pg J (x.f F.is_pair) [.int (many : Int), prD p] B S = some (.bl (decide (p.1 < p.2 ∧ p.2 < many)), S) := by
  obtain ⟨J, rfl⟩ : ∃ j, J = j + 1 := ⟨J - 1, by omega⟩
  have hw := fun i a b B S => is_within_run (pg := pg) (x := x) H.is_integer H.is_within (J := J) (by omega) i a b B S
  have hP := H.PAIR
  have e1 : ∀ S : Sto, isInst S (prD p) (.ty "tuple") = some true := fun S => by simp [isInst, isK, kindOk, tyOk]
  have l1 : ∀ S : Sto, bLen S (prD p) = some (.d (.int 2)) := fun S => by simp [bLen, seqOf, tupOf]
  have s1 : ∀ S : Sto, ∀ i j : Int, binop .Sub S (.int i) (.int j) = some (.d (.int (i - j))) := fun _ _ _ => rfl
  have a1 : ∀ S : Sto, ∀ i j : Int, binop .Add S (.int i) (.int j) = some (.d (.int (i + j))) := fun _ _ _ => rfl
  by_cases h : (p.1 : Int) ≤ (many : Int) - 1
  · refine run_d H.is_pair (S' := S) (d := .bl (decide (p.1 < p.2 ∧ p.2 < many))) rfl ?_ (by simp [fin, EV.D.under])
    simp [B_is_pair, excs, exc, ev, evs, evo, evi, evt, asg, asgs, dOf_d, dOf_fl, tOf_some, Option.bind_some, Option.map_some, Option.bind_none, Option.map_none, bfun, EV.b1, EV.b2, setMany, plOf, seqOf, tupOf, lstOf, lsmOf, truth, cmpop, ltD, EV.i2, e1, l1, hP, eqD_ints, itemAt_pr0, itemAt_pr1, s1, a1, hw, h]
    rw [Bool.eq_iff_iff]
    simp only [Bool.and_eq_true, decide_eq_true_eq]
    omega
  · refine run_d H.is_pair (S' := S) (d := .bl false) rfl ?_ (by simp [fin, EV.D.under]; omega)
    simp [B_is_pair, excs, exc, ev, evs, evo, evi, evt, asg, asgs, dOf_d, dOf_fl, tOf_some, Option.bind_some, Option.map_some, Option.bind_none, Option.map_none, bfun, EV.b1, EV.b2, setMany, plOf, seqOf, tupOf, lstOf, lsmOf, truth, cmpop, ltD, EV.i2, e1, l1, hP, eqD_ints, itemAt_pr0, itemAt_pr1, s1, a1, hw, h]
end
end EV
end
section
set_option maxRecDepth 100000
set_option autoImplicit false
set_option maxHeartbeats 4000000
namespace EV
open PySem L2 Nw
/-- pairs in the order of their places -/
def leP (p q : Pr) : Bool := decide (p.1 < q.1) || (decide (p.1 = q.1) && decide (p.2 ≤ q.2))
def soP (L : List Pr) : List Pr := L.mergeSort leP
theorem soP_perm (L : List Pr) : List.Perm L (soP L) := (List.mergeSort_perm L leP).symm
theorem leP_trans (a b c : Pr) (h1 : leP a b = true) (h2 : leP b c = true) : leP a c = true := by
  simp only [leP, Bool.or_eq_true, Bool.and_eq_true, decide_eq_true_eq] at *
  omega
theorem leP_total (a b : Pr) : (leP a b || leP b a) = true := by
  simp only [leP, Bool.or_eq_true, Bool.and_eq_true, decide_eq_true_eq] at *
  omega
theorem soP_sorted (L : List Pr) : (soP L).Pairwise fun a b => leP a b = true := List.pairwise_mergeSort leP_trans leP_total L
theorem soP_soP (L : List Pr) : soP (soP L) = soP L := List.mergeSort_of_pairwise (soP_sorted L)
theorem soP_len (L : List Pr) : (soP L).length = L.length := (soP_perm L).length_eq.symm
def cP (p : Pr) : Int × Int := ((p.1 : Int), (p.2 : Int))
theorem leP_c (a b : Pr) : pairLe (cP a) (cP b) = leP a b := by
  rw [Bool.eq_iff_iff]
  simp only [pairLe, leP, cP, Bool.or_eq_true, Bool.and_eq_true, decide_eq_true_eq, Int.ofNat_lt, Int.ofNat_inj, Int.ofNat_le]
theorem sortD_prs (ps : List Pr) (hl : ps.length ≤ sizeLine) : sortD (ps.map prD) = some ((soP ps).map prD) := by
  have h := sortD_pairs (ps.map cP) (by simpa using hl)
  rw [← List.map_mergeSort (f := cP) (r := leP) (s := pairLe) fun a _ b _ => (leP_c a b).symm] at h
  rw [List.map_map, List.map_map] at h
  exact h
section
variable {pg : Pg} {x : Ix}
theorem seqOf_lv (S : Sto) (L : List Pr) : seqOf S (lvD L) = some (L.map prD) := rfl
theorem getElem?_put {α : Type} {l : List α} {a : α} : (l ++ [a])[l.length]? = some a := by simp
theorem flat_len {β : Type} {f g : Pr → β} (L : List Pr) : (L.flatMap fun p => [f p, g p]).length = 2 * L.length := by
  induction L with
  | nil => rfl
  | cons q L ih => rw [List.flatMap_cons, List.length_append, ih]; simp; omega
theorem is_level_run (H : NetForm pg x) {J : Nat} (hJ : 4 ≤ J) (many : Nat) (L : List Pr) (hp : ∀ p ∈ L, p.1 < p.2 ∧ p.2 < many) (hd : L.Pairwise dj) (hs : soP L = L) (hm : many ≤ 1000) (B : Nat) (S : Sto) : run pg J (x.f F.is_level) [.int (many : Int), lvD L] B S = some (.bl true, S) := by
  obtain ⟨J, rfl⟩ : ∃ j, J = j + 1 := ⟨J - 1, by omega⟩
  have hshort : 2 * L.length ≤ many := level_short hd (fun p h => (hp p h).1) (fun p h => (hp p h).2)
  have hl : L.length ≤ sizeLine := by rw [sizeLine_eq]; omega
  have e1 : ∀ S : Sto, isInst S (lvD L) (.ty "tuple") = some true := fun S => by simp [isInst, isK, kindOk, tyOk]
  -- all pairs
  have c1 : ∀ (S S0 : Sto), compT (clJ pg J) S0.length (is_level_t9 x) (is_level_e8 x) [] S (wipeE [some (.int (many : Int)), some (lvD L), none, none, none] [3]) (L.map prD) [] S = some ([] ++ L.map fun _ => EV.D.bl true, S) := fun S S0 => by
    refine comp_map prD (fun _ => .bl true) rfl L [] (fun p hpm => ?_) (by simpa using hl)
    refine ⟨[some (.int (many : Int)), some (lvD L), none, some (prD p), none], by simp [is_level_t9, asg, wipeE], rfl, ?_⟩
    have h1 := is_pair_run (x := x) H (J := J) (by omega) many p S0.length S
    have h2 := hp p hpm
    simp [is_level_e8, excs, exc, ev, evs, evo, evi, evt, asg, asgs, dOf_d, dOf_fl, tOf_some, Option.bind_some, Option.map_some, Option.bind_none, Option.map_none, bfun, EV.b1, EV.b2, setMany, plOf, seqOf, tupOf, lstOf, lsmOf, truth, cmpop, ltD, EV.i2, h1, h2]
  -- all places
  have hpl : ((L.flatMap fun p => [p.1, p.2])).Nodup := dj_places L hd fun p h => Nat.ne_of_lt (hp p h).1
  have hplen : (L.flatMap fun p => [p.1, p.2]).length = 2 * L.length := flat_len L
  have c2 : ∀ (S S0 : Sto), comp2T (clJ pg J) S0.length (is_level_t5 x) (is_level_e4 x) (is_level_t6 x) (is_level_s7 x) [] S (wipeE [some (.int (many : Int)), some (lvD L), none, none, none] [3, 4]) (L.map prD) [] S = some ([] ++ L.flatMap fun p => [nI p.1, nI p.2], S) := fun S S0 => by
    refine comp_flat prD (fun p => [nI p.1, nI p.2]) rfl sizeLine L [] (fun p hpm => ?_) (by rw [flat_len, sizeLine_eq]; simp only [List.length_nil]; omega)
    refine ⟨[some (.int (many : Int)), some (lvD L), none, some (prD p), none], by simp [is_level_t5, asg, wipeE], rfl, fun acc hacc => ?_⟩
    simp [is_level_s7, excs, exc, ev, evs, evo, evi, evt, asg, asgs, dOf_d, dOf_fl, tOf_some, Option.bind_some, Option.map_some, Option.bind_none, Option.map_none, bfun, EV.b1, EV.b2, setMany, plOf, seqOf, tupOf, lstOf, lsmOf, truth, cmpop, ltD, EV.i2]
    have := comp_map (tg := fun d ρ S => asg (clJ pg J) S0.length (is_level_t6 x) d ρ S) (tst := fun ρ S => some (true, S)) (elt := fun ρ S => dOf (ev (clJ pg J) S0.length (is_level_e4 x) ρ S)) (ws := []) (ρ := wipeE [some (.int (many : Int)), some (lvD L), none, some (prD p), none] (is_level_t6 x).slots) (S0 := S) (S := S) nI nI rfl [p.1, p.2] acc (fun a _ => ⟨[some (.int (many : Int)), some (lvD L), none, some (prD p), some (nI a)], by simp [is_level_t6, asg, wipeE, Tg.slots], rfl, by simp [is_level_e4, excs, exc, ev, evs, evo, evi, evt, asg, asgs, dOf_d, dOf_fl, tOf_some, Option.bind_some, Option.map_some, Option.bind_none, Option.map_none, bfun, EV.b1, EV.b2, setMany, plOf, seqOf, tupOf, lstOf, lsmOf, truth, cmpop, ltD, EV.i2]⟩) (by simpa using hacc)
    exact this
  have fm : (L.flatMap fun p => [nI p.1, nI p.2]) = (L.flatMap fun p => [p.1, p.2]).map nI := by rw [List.map_flatMap]; rfl
  generalize hP : (L.flatMap fun p => [p.1, p.2]) = P at fm hpl hplen
  have c3 : ∀ (S S0 : Sto), dcT (clJ pg J) S0.length (is_level_t3 x) (is_level_k1 x) (is_level_v2 x) [] S (wipeE [some (.int (many : Int)), some (lvD L), some (.lst (P.map nI)), none, none] [4]) (P.map nI) [] S = some ([] ++ P.map fun (a : Nat) => (Sum.inl (a : Int), EV.D.bl true), S) := fun S S0 => by
    refine dc_new nI (fun _ => .bl true) (fun (a : Nat) => Sum.inl (a : Int)) rfl P [] (fun a _ => ⟨[some (.int (many : Int)), some (lvD L), some (.lst (P.map nI)), none, some (nI a)], nI a, by simp [is_level_t3, asg, wipeE], rfl, by simp [is_level_k1, excs, exc, ev, evs, evo, evi, evt, asg, asgs, dOf_d, dOf_fl, tOf_some, Option.bind_some, Option.map_some, Option.bind_none, Option.map_none, bfun, EV.b1, EV.b2, setMany, plOf, seqOf, tupOf, lstOf, lsmOf, truth, cmpop, ltD, EV.i2], rfl, by simp [is_level_v2, excs, exc, ev, evs, evo, evi, evt, asg, asgs, dOf_d, dOf_fl, tOf_some, Option.bind_some, Option.map_some, Option.bind_none, Option.map_none, bfun, EV.b1, EV.b2, setMany, plOf, seqOf, tupOf, lstOf, lsmOf, truth, cmpop, ltD, EV.i2]⟩) ?_ (by rw [hplen, sizeLine_eq]; simp only [List.length_nil]; omega)
    simp only [List.map_nil, List.nil_append]
    exact List.pairwise_map.2 (hpl.imp fun h e => h (by have := Sum.inl.inj e; omega))
  have srt : ∀ S : Sto, bSort S (lvD L) = some (.fl (L.map prD)) := fun S => by
    show (sortD (L.map prD)).map Vl.fl = _
    rw [sortD_prs L hl, hs]
    rfl
  have lstL : ∀ S : Sto, bLst S (lvD L) = some (.fl (L.map prD)) := fun S => rfl
  have q1 : ∀ S : Sto, eqD S (.lst (L.map prD)) (.lst (L.map prD)) = some true := fun S => by
    have f : D.fine 2 (.lst (L.map prD)) = true := by
      show D.fines 1 (L.map prD) = true
      exact fines_map fun p _ => prD_fine p
    rw [eqD_fine (n := 2) (by omega) f f]
    simp
  have aT : ∀ S : Sto, bAll S (.lst (L.map fun _ => EV.D.bl true)) = some (.d (.bl true)) := fun S => by
    unfold bAll
    simp only [lstOf, Option.bind_some, blsOf_map]
    simp
  refine run_d H.is_level (S' := S ++ [.dK (P.map fun (a : Nat) => (Sum.inl (a : Int), EV.D.bl true))]) (d := .bl true) rfl ?_ (fin_val rfl (by simp))
  have n1 : bLen (S ++ [.dK (P.map fun (a : Nat) => (Sum.inl (a : Int), EV.D.bl true))]) (.loc S.length) = some (.d (.int (P.length : Int))) := by simp [bLen, seqOf, tupOf, lstOf]
  have n2 : ∀ S : Sto, bLen S (.lst (P.map nI)) = some (.d (.int (P.length : Int))) := fun S => by simp [bLen, seqOf, tupOf, lstOf]
  simp only [List.nil_append] at c1 c2 c3
  rw [fm] at c2
  simp [B_is_level, excs, exc, ev, evs, evo, evi, evt, asg, asgs, dOf_d, dOf_fl, tOf_some, Option.bind_some, Option.map_some, Option.bind_none, Option.map_none, bfun, EV.b1, EV.b2, setMany, plOf, seqOf, tupOf, lstOf, lsmOf, truth, cmpop, ltD, EV.i2, e1, c1, c2, c3, aT, Vl.place, n1, n2, eqD_ints, lstL, srt, q1]
end
end EV
end
section
set_option maxRecDepth 100000
set_option autoImplicit false
set_option maxHeartbeats 4000000
namespace EV
open PySem L2 Nw
section
variable {pg : Pg} {x : Ix}
/-- a level as is_level takes it -/
structure LvOk (many : Nat) (L : List Pr) : Prop where
  lt : ∀ p ∈ L, p.1 < p.2 ∧ p.2 < many
  pw : L.Pairwise dj
  so : soP L = L
theorem is_network_run (H : NetForm pg x) {J : Nat} (hJ : 5 ≤ J) (many : Nat) (Ls : List (List Pr)) (h : ∀ L ∈ Ls, LvOk many L) (hl : Ls.length ≤ 300) (hm : many ≤ 1000) (B : Nat) (S : Sto) : run pg J (x.f F.is_network) [.int (many : Int), .tup (Ls.map lvD)] B S = some (.bl true, S) := by
  obtain ⟨J, rfl⟩ : ∃ j, J = j + 1 := ⟨J - 1, by omega⟩
  have e1 : ∀ S : Sto, isInst S (.tup (Ls.map lvD)) (.ty "tuple") = some true := fun S => by simp [isInst, isK, kindOk, tyOk]
  have l1 : ∀ S : Sto, bLen S (.tup (Ls.map lvD)) = some (.d (.int (Ls.length : Int))) := fun S => by simp [bLen, seqOf, tupOf]
  have c1 : ∀ (S S0 : Sto), compT (clJ pg J) S0.length (is_network_t2 x) (is_network_e1 x) [] S (wipeE [some (.int (many : Int)), some (.tup (Ls.map lvD)), none] [2]) (Ls.map lvD) [] S = some ([] ++ Ls.map fun _ => EV.D.bl true, S) := fun S S0 => by
    refine comp_map lvD (fun _ => .bl true) rfl Ls [] (fun L hL => ?_) (by rw [sizeLine_eq]; simp only [List.length_nil]; omega)
    refine ⟨[some (.int (many : Int)), some (.tup (Ls.map lvD)), some (lvD L)], by simp [is_network_t2, asg, wipeE], rfl, ?_⟩
    have h2 := h L hL
    have h1 := is_level_run (x := x) H (J := J) (by omega) many L h2.lt h2.pw h2.so hm S0.length S
    simp [is_network_e1, excs, exc, ev, evs, evo, evi, evt, asg, asgs, dOf_d, dOf_fl, tOf_some, Option.bind_some, Option.map_some, Option.bind_none, Option.map_none, bfun, EV.b1, EV.b2, setMany, plOf, seqOf, tupOf, lstOf, lsmOf, truth, cmpop, ltD, EV.i2, h1]
  have aT : ∀ S : Sto, bAll S (.lst (Ls.map fun _ => EV.D.bl true)) = some (.d (.bl true)) := fun S => by
    unfold bAll
    simp only [lstOf, Option.bind_some, blsOf_map]
    simp
  have hM := H.MOST_LEVELS
  have hlt : ¬ (300 : Int) < (Ls.length : Int) := by omega
  refine run_d H.is_network (S' := S) (d := .bl true) rfl ?_ (fin_val rfl (by simp))
  simp only [List.nil_append] at c1
  simp [B_is_network, excs, exc, ev, evs, evo, evi, evt, asg, asgs, dOf_d, dOf_fl, tOf_some, Option.bind_some, Option.map_some, Option.bind_none, Option.map_none, bfun, EV.b1, EV.b2, setMany, plOf, seqOf, tupOf, lstOf, lsmOf, truth, cmpop, ltD, EV.i2, e1, l1, hM, hlt, c1, aT]
/-! comparators run -/
/-- things that the program compares -/
structure Enc {α : Type} (lt : α → α → Bool) (enc : α → EV.D) : Prop where
  cmp : ∀ a b, ltT (enc a) (enc b) = some (lt a b)
  und : ∀ a n, (enc a).under n = true
theorem encI : Enc ltI EV.D.int := ⟨fun a b => by simp [ltT, ltI], fun a n => rfl⟩
def pI (p : Int × Int) : EV.D := .tup [.int p.1, .int p.2]
theorem encP : Enc ltP pI := ⟨fun a b => by
  simp only [ltT, pI, tupOf, Option.bind_some, intsOf, Option.map_some]
  congr 1
  rw [HT.lexLt_cons, HT.lexLt_cons, HT.lexLt_nil_nil, Bool.eq_iff_iff]
  by_cases h1 : a.1 = b.1 <;> by_cases h2 : a.2 = b.2 <;> simp [ltP, h1, h2], fun a n => rfl⟩
structure NetDone (pg : Pg) (x : Ix) : Prop where
  level_done : pg.defs[x.f F.level_done]? = some (Df_level_done x)
  done : pg.defs[x.f F.done]? = some (Df_done x)
theorem itemAt_loc {S : Sto} {n : Nat} {xs : List EV.D} {i : Nat} {a : EV.D} (h : S[n]? = some (.lst xs)) (hi : xs[i]? = some a) : itemAt S (.loc n) (.int (i : Int)) = some a := by
  simp only [itemAt, seqOf, tupOf, lstOf, h]
  exact atI_nat hi
theorem setIx_loc {S : Sto} {b n : Nat} {xs : List EV.D} {i : Nat} {a : EV.D} (h : S[n]? = some (.lst xs)) (hb : b ≤ n) (hi : i < xs.length) : setIx b S (.loc n) (.int (i : Int)) a = some (S.set n (.lst (xs.set i a))) := by
  simp only [setIx, okIn_le hb, if_true, h]
  have : ixN xs.length (i : Int) = some i := by
    unfold ixN
    rw [if_pos (by omega), if_pos (by omega)]
    simp
  rw [this]
  rfl
theorem level_done_run (H : NetDone pg x) {J : Nat} (hJ : 1 ≤ J) {α : Type} {lt : α → α → Bool} {enc : α → EV.D} (E : Enc lt enc) (L : List Pr) (l : List α) (hin : ∀ p ∈ L, p.1 < l.length ∧ p.2 < l.length) (v : EV.D) (hv : v = .lst (l.map enc)) (B : Nat) (S : Sto) : run pg J (x.f F.level_done) [lvD L, v] B S = some (.lst ((runs lt L l).map enc), S) := by
  subst hv
  obtain ⟨J, rfl⟩ : ∃ j, J = j + 1 := ⟨J - 1, by omega⟩
  have hst : ∀ i : Nat, ∀ m : List α, (S ++ [Cell.lst (m.map enc)])[S.length]? = some (.lst (m.map enc)) := fun i m => by simp
  have c1 := for_fold (tg := fun d ρ S' => asg (clJ pg J) S.length (level_done_t1 x) d ρ S') (body := fun ρ S' => excs (clJ pg J) S.length (level_done_b2 x) ρ S') (ws := []) (S0 := S ++ [.lst (l.map enc)]) prD (step lt)
    (fun (m : List α) ρ S' => m.length = l.length ∧ S' = S ++ [.lst (m.map enc)] ∧ ∃ a b, ρ = [some (lvD L), some (.lst (l.map enc)), some (.loc S.length), a, b]) (fun _ _ _ _ => rfl) L l
    [some (lvD L), some (.lst (l.map enc)), some (.loc S.length), none, none] (S ++ [.lst (l.map enc)]) ⟨rfl, rfl, none, none, rfl⟩ (fun m p ρ S' hp hI => by
      obtain ⟨hm, rfl, a, b, rfl⟩ := hI
      obtain ⟨h1, h2⟩ := hin p hp
      have g1 : m[p.1]? = some m[p.1] := List.getElem?_eq_getElem (by omega)
      have g2 : m[p.2]? = some m[p.2] := List.getElem?_eq_getElem (by omega)
      have i1 := itemAt_loc (S := S ++ [.lst (m.map enc)]) (hst 0 m) (i := p.1) (a := enc m[p.1]) (by rw [List.getElem?_map, g1]; rfl)
      have i2 := itemAt_loc (S := S ++ [.lst (m.map enc)]) (hst 0 m) (i := p.2) (a := enc m[p.2]) (by rw [List.getElem?_map, g2]; rfl)
      have t1 := E.cmp m[p.2] m[p.1]
      cases hlt : lt m[p.2] m[p.1] with
      | false =>
        refine ⟨_, S ++ [.lst (m.map enc)], ?_, ?_, ?_, some (nI p.1), some (nI p.2), rfl⟩
        · simp [level_done_t1, level_done_b2, excs, exc, ev, evs, evo, evi, evt, asg, asgs, dOf_d, dOf_fl, tOf_some, Option.bind_some, Option.map_some, Option.bind_none, Option.map_none, bfun, EV.b1, EV.b2, setMany, plOf, seqOf, tupOf, lstOf, lsmOf, truth, cmpop, ltD, EV.i2, i1, i2, t1, hlt]
        · rw [step_len, hm]
        · unfold Nw.step
          rw [g1, g2]
          simp [hlt]
      | true =>
        have s1 := setIx_loc (b := S.length) (S := S ++ [.lst (m.map enc)]) (hst 0 m) (Nat.le_refl _) (i := p.1) (a := enc m[p.2]) (by simp; omega)
        have e1 : (S ++ [Cell.lst (m.map enc)]).set S.length (.lst ((m.map enc).set p.1 (enc m[p.2]))) = S ++ [.lst ((m.set p.1 m[p.2]).map enc)] := by rw [List.set_append_right _ _ (Nat.le_refl _)]; simp [List.map_set]
        rw [e1] at s1
        have s2 := setIx_loc (b := S.length) (S := S ++ [.lst ((m.set p.1 m[p.2]).map enc)]) (hst 0 _) (Nat.le_refl _) (i := p.2) (a := enc m[p.1]) (by simp; omega)
        have e2 : (S ++ [Cell.lst ((m.set p.1 m[p.2]).map enc)]).set S.length (.lst (((m.set p.1 m[p.2]).map enc).set p.2 (enc m[p.1]))) = S ++ [.lst (((m.set p.1 m[p.2]).set p.2 m[p.1]).map enc)] := by rw [List.set_append_right _ _ (Nat.le_refl _)]; simp [List.map_set]
        rw [e2] at s2
        simp only [List.map_set] at s1 s2
        have tz2 : tz [enc m[p.2], enc m[p.1]] = some (.d (.tup [enc m[p.2], enc m[p.1]])) := tz_ok (by rw [sizeLine_eq]; simp)
        refine ⟨_, S ++ [.lst (((m.set p.1 m[p.2]).set p.2 m[p.1]).map enc)], ?_, ?_, ?_, some (nI p.1), some (nI p.2), rfl⟩
        · simp [level_done_t1, level_done_b2, excs, exc, ev, evs, evo, evi, evt, asg, asgs, dOf_d, dOf_fl, tOf_some, Option.bind_some, Option.map_some, Option.bind_none, Option.map_none, bfun, EV.b1, EV.b2, setMany, plOf, seqOf, tupOf, lstOf, lsmOf, truth, cmpop, ltD, EV.i2, i1, i2, t1, hlt, tz2, s1, s2]
        · rw [step_len, hm]
        · unfold Nw.step
          rw [g1, g2]
          simp [hlt])
  obtain ⟨ρ', S', c2, hlen, rfl, a, b, rfl⟩ := c1
  refine run_d H.level_done (S' := S ++ [.lst ((runs lt L l).map enc)]) (d := .loc S.length) rfl ?_ (fin_lst (Nat.le_refl _) (hst 0 _) (unders_map fun a _ => E.und a _) (by simp))
  have k1 : ∀ S, bLst S (.lst (l.map enc)) = some (.fl (l.map enc)) := fun S => rfl
  simp [B_level_done, excs, exc, ev, evs, evo, evi, evt, asg, asgs, dOf_d, dOf_fl, tOf_some, Option.bind_some, Option.map_some, Option.bind_none, Option.map_none, bfun, EV.b1, EV.b2, setMany, plOf, seqOf, tupOf, lstOf, lsmOf, truth, cmpop, ltD, EV.i2, k1, Vl.place, c2]
  rfl
theorem done_run (H : NetDone pg x) {J : Nat} (hJ : 2 ≤ J) {α : Type} {lt : α → α → Bool} {enc : α → EV.D} (E : Enc lt enc) (Ls : List (List Pr)) (l : List α) (hin : ∀ L ∈ Ls, ∀ p ∈ L, p.1 < l.length ∧ p.2 < l.length) (net v : EV.D) (hnet : net = .tup (Ls.map lvD) ∨ net = .lst (Ls.map lvD)) (hv : v = .lst (l.map enc) ∨ v = .tup (l.map enc)) (B : Nat) (S : Sto) : run pg J (x.f F.done) [net, v] B S = some (.tup ((runs lt Ls.flatten l).map enc), S) := by
  obtain ⟨J, rfl⟩ : ∃ j, J = j + 1 := ⟨J - 1, by omega⟩
  have c1 := for_fold (tg := fun d ρ S' => asg (clJ pg J) S.length (done_t1 x) d ρ S') (body := fun ρ S' => excs (clJ pg J) S.length (done_b2 x) ρ S') (ws := []) (S0 := S) lvD (fun m L => runs lt L m)
    (fun (m : List α) ρ S' => m.length = l.length ∧ S' = S ∧ ∃ a, ρ = [some net, some v, some (.lst (m.map enc)), a]) (fun _ _ _ _ => rfl) Ls l
    [some net, some v, some (.lst (l.map enc)), none] S ⟨rfl, rfl, none, rfl⟩ (fun m L ρ S' hL hI => by
      obtain ⟨hm, rfl, a, rfl⟩ := hI
      have h1 := level_done_run (x := x) H (J := J) (by omega) E L m (fun p hp => by rw [hm]; exact hin L hL p hp) _ rfl S'.length S'
      refine ⟨_, S', ?_, ?_, rfl, some (lvD L), rfl⟩
      · simp [done_t1, done_b2, excs, exc, ev, evs, evo, evi, evt, asg, asgs, dOf_d, dOf_fl, tOf_some, Option.bind_some, Option.map_some, Option.bind_none, Option.map_none, bfun, EV.b1, EV.b2, setMany, plOf, seqOf, tupOf, lstOf, lsmOf, truth, cmpop, ltD, EV.i2, h1]
      · rw [runs_len, hm])
  obtain ⟨ρ', S', c2, hlen, rfl, a, rfl⟩ := c1
  have hf : Ls.foldl (fun m L => runs lt L m) l = runs lt Ls.flatten l := by
    clear c2 hlen hin hnet hv
    induction Ls generalizing l with
    | nil => rfl
    | cons L Ls ih =>
      rw [List.foldl_cons, List.flatten_cons, runs_append', ih (runs lt L l)]
  rw [hf] at c2
  have k1 : ∀ S, bLst S v = some (.fl (l.map enc)) := fun S => by rcases hv with rfl | rfl <;> rfl
  have k2 : ∀ S, bTup S (.lst ((runs lt Ls.flatten l).map enc)) = some (.d (.tup ((runs lt Ls.flatten l).map enc))) := fun S => rfl
  refine run_d H.done (S' := S') (d := .tup ((runs lt Ls.flatten l).map enc)) rfl ?_ (fin_val (unders_map fun a _ => E.und a _) (by simp))
  rcases hnet with rfl | rfl
  all_goals
    simp [B_done, excs, exc, ev, evs, evo, evi, evt, asg, asgs, dOf_d, dOf_fl, tOf_some, Option.bind_some, Option.map_some, Option.bind_none, Option.map_none, bfun, EV.b1, EV.b2, setMany, plOf, seqOf, tupOf, lstOf, lsmOf, truth, cmpop, ltD, EV.i2, k1, k2, c2]
end
end EV
end
section
set_option maxRecDepth 100000
set_option autoImplicit false
set_option maxHeartbeats 4000000
/-! greedy levels, walked -/
namespace EV
open PySem L2 Nw
section
variable {κ : Type} [DecidableEq κ]
theorem valG_cons (q : κ × EV.D) (kvs : List (κ × EV.D)) (k : κ) : valG (q :: kvs) k = if q.1 = k then some q.2 else valG kvs k := by
  unfold valG
  rw [List.find?_cons]
  by_cases h : q.1 = k <;> simp [h]
theorem valG_over (k k' : κ) (v : EV.D) : ∀ kvs : List (κ × EV.D), valG (kvs.map fun kv => if kv.1 = k then (kv.1, v) else kv) k' = if k = k' then (valG kvs k').map (fun _ => v) else valG kvs k'
  | [] => by simp [valG]
  | q :: kvs => by
    have ih := valG_over k k' v kvs
    rw [List.map_cons, valG_cons, valG_cons, ih]
    by_cases h1 : q.1 = k
    · subst h1
      by_cases h2 : q.1 = k' <;> simp [h2]
    · by_cases h2 : q.1 = k'
      · subst h2
        have h3 : ¬ k = q.1 := fun e => h1 e.symm
        simp [h1, h3]
      · simp [h1, h2]
theorem valG_any (k : κ) : ∀ kvs : List (κ × EV.D), (kvs.any fun kv => decide (kv.1 = k)) = (valG kvs k).isSome
  | [] => rfl
  | q :: kvs => by
    rw [List.any_cons, valG_any k kvs, valG_cons]
    by_cases h : q.1 = k <;> simp [h]
theorem valG_end (k k' : κ) (v : EV.D) : ∀ kvs : List (κ × EV.D), valG (kvs ++ [(k, v)]) k' = (valG kvs k').or (if k = k' then some v else none)
  | [] => by simp [valG_cons, valG]
  | q :: kvs => by
    rw [List.cons_append, valG_cons, valG_cons, valG_end k k' v kvs]
    by_cases h : q.1 = k' <;> simp [h]
theorem valG_put (kvs : List (κ × EV.D)) (k k' : κ) (v : EV.D) : valG (putG kvs k v) k' = if k = k' then some v else valG kvs k' := by
  unfold putG
  rw [valG_any]
  cases h : (valG kvs k).isSome with
  | true =>
    simp only [if_true]
    rw [valG_over]
    by_cases hk : k = k'
    · subst hk
      obtain ⟨d, hd⟩ := Option.isSome_iff_exists.1 h
      simp [hd]
    · simp [hk]
  | false =>
    simp only [Bool.false_eq_true, if_false]
    rw [valG_end]
    by_cases hk : k = k'
    · subst hk
      have : valG kvs k = none := by simpa using h
      simp [this]
    · simp [hk]
theorem putG_len (kvs : List (κ × EV.D)) (k : κ) (v : EV.D) : (putG kvs k v).length ≤ kvs.length + 1 := by
  unfold putG
  split <;> simp
end
theorem put_end (q : Pr) : ∀ Ls : List (List Pr), put Ls.length q Ls = Ls ++ [[q]]
  | [] => rfl
  | L :: Ls => by simp [put, put_end q Ls]
theorem put_at (q : Pr) : ∀ (n : Nat) (Ls : List (List Pr)) (L : List Pr), Ls[n]? = some L → put n q Ls = Ls.set n (L ++ [q])
  | n, [], L, h => by simp at h
  | 0, M :: Ls, L, h => by
    have e : M = L := by simpa using h
    rw [e]
    rfl
  | n + 1, M :: Ls, L, h => by
    have := put_at q n Ls L (by simpa using h)
    simp [put, this]
/-- the store while levels grow: two cells, then one for each level -/
def lvSto (S : Sto) (c0 c1 : Cell) (Ls : List (List Pr)) : Sto := S ++ c0 :: c1 :: Ls.map fun L => Cell.lst (L.map prD)
def locs (n : Nat) : Nat → List EV.D
  | 0 => []
  | k + 1 => .loc n :: locs (n + 1) k
theorem locs_len (n : Nat) : ∀ k, (locs n k).length = k := fun k => by
  induction k generalizing n with
  | zero => rfl
  | succ k ih => simp [locs, ih]
theorem locs_get : ∀ (n k i : Nat), i < k → (locs n k)[i]? = some (.loc (n + i))
  | n, 0, i, h => by omega
  | n, k + 1, 0, h => rfl
  | n, k + 1, i + 1, h => by
    have := locs_get (n + 1) k i (by omega)
    simp only [locs, List.getElem?_cons_succ, this]
    congr 2
    omega
theorem locs_succ : ∀ (n k : Nat), locs n (k + 1) = locs n k ++ [.loc (n + k)]
  | n, 0 => rfl
  | n, k + 1 => by
    rw [locs, locs_succ (n + 1) k]
    simp only [locs, List.cons_append]
    congr 4
    omega
section
variable {S : Sto} {c0 c1 : Cell} {Ls : List (List Pr)}
theorem lvSto_len : (lvSto S c0 c1 Ls).length = S.length + 2 + Ls.length := by simp [lvSto]; omega
theorem lvSto_0 : (lvSto S c0 c1 Ls)[S.length]? = some c0 := by simp [lvSto]
theorem lvSto_1 : (lvSto S c0 c1 Ls)[S.length + 1]? = some c1 := by simp [lvSto]
theorem lvSto_lv {i : Nat} {L : List Pr} (h : Ls[i]? = some L) : (lvSto S c0 c1 Ls)[S.length + 2 + i]? = some (.lst (L.map prD)) := by
  unfold lvSto
  rw [List.getElem?_append_right (by omega), show S.length + 2 + i - S.length = i + 1 + 1 by omega]
  simp [h]
theorem lvSto_set0 (c : Cell) : (lvSto S c0 c1 Ls).set S.length c = lvSto S c c1 Ls := by
  unfold lvSto
  rw [List.set_append_right _ _ (Nat.le_refl _)]
  simp
theorem lvSto_set1 (c : Cell) : (lvSto S c0 c1 Ls).set (S.length + 1) c = lvSto S c0 c Ls := by
  unfold lvSto
  rw [List.set_append_right _ _ (by omega)]
  simp
theorem lvSto_setL (i : Nat) (L : List Pr) : (lvSto S c0 c1 Ls).set (S.length + 2 + i) (.lst (L.map prD)) = lvSto S c0 c1 (Ls.set i L) := by
  unfold lvSto
  rw [List.set_append_right _ _ (by omega), show S.length + 2 + i - S.length = i + 1 + 1 by omega]
  simp [List.map_set]
theorem lvSto_new : lvSto S c0 c1 Ls ++ [.lst []] = lvSto S c0 c1 (Ls ++ [[]]) := by simp [lvSto]
theorem lvSto_take : (lvSto S c0 c1 Ls).take S.length = S := by simp [lvSto]
end
/-- the dict tells when a place is free -/
def FreeD (kvs : List (Key × EV.D)) (free : Nat → Nat) : Prop := ∀ i : Nat, (valG kvs (.inl (i : Int))).getD (.int 0) = .int (free i : Int)
theorem FreeD.put {kvs : List (Key × EV.D)} {free : Nat → Nat} (h : FreeD kvs free) (q : Pr) (n : Nat) : FreeD (putG (putG kvs (.inl (q.1 : Int)) (.int ((n : Int) + 1))) (.inl (q.2 : Int)) (.int ((n : Int) + 1))) (fr free n q) := by
  intro i
  rw [valG_put, valG_put]
  have inj : ∀ a b : Nat, ((Sum.inl (a : Int) : Key) = .inl (b : Int)) ↔ b = a := fun a b => by
    constructor
    · intro e; have := Sum.inl.inj e; omega
    · intro e; rw [e]
  simp only [inj]
  unfold fr
  by_cases h2 : i = q.2
  · simp [h2]
  · by_cases h1 : i = q.1
    · simp [h1, h2]
    · simp [h1, h2, h i]
end EV
end
section
set_option maxRecDepth 100000
set_option autoImplicit false
set_option maxHeartbeats 8000000
/-! greedy levels, walked: levelled -/
namespace EV
open PySem L2 Nw
theorem adds_len (qs : List Pr) : ∀ s : Nw.St, Good s → s.levels.length ≤ (qs.foldl Nw.St.add s).levels.length ∧ (qs.foldl Nw.St.add s).levels.length ≤ s.levels.length + qs.length ∧ Good (qs.foldl Nw.St.add s) := by
  induction qs with
  | nil => exact fun s h => ⟨Nat.le_refl _, Nat.le_refl _, h⟩
  | cons q qs ih =>
    intro s h
    obtain ⟨a, b, c⟩ := ih (s.add q) (good_add h q)
    have hn : max (s.free q.1) (s.free q.2) ≤ s.levels.length := Nat.max_le.2 ⟨h.le _, h.le _⟩
    have : (s.add q).levels.length = max s.levels.length (max (s.free q.1) (s.free q.2) + 1) := put_len q _ _ hn
    simp only [List.foldl_cons, List.length_cons]
    exact ⟨by omega, by omega, c⟩
/-- no level is longer than what was put in -/
def Short (n : Nat) (Ls : List (List Pr)) : Prop := ∀ L ∈ Ls, L.length ≤ n
theorem short_add {n : Nat} {s : Nw.St} (h : Short n s.levels) (q : Pr) : Short (n + 1) (s.add q).levels := by
  have go : ∀ (k : Nat) (Ls : List (List Pr)), Short n Ls → Short (n + 1) (put k q Ls) := by
    intro k Ls
    induction Ls generalizing k with
    | nil =>
      intro _ L hL
      have e : put k q [] = [[q]] := by cases k <;> rfl
      rw [e] at hL
      rw [List.mem_singleton.1 hL]
      simp
    | cons M Ls ih =>
      intro hs L hL
      cases k with
      | zero =>
        rcases List.mem_cons.1 hL with rfl | hL
        · have := hs M (List.mem_cons_self ..)
          simp; omega
        · have := hs L (List.mem_cons_of_mem _ hL)
          omega
      | succ k =>
        rcases List.mem_cons.1 hL with rfl | hL
        · have := hs L (List.mem_cons_self ..)
          omega
        · exact ih k (fun M hM => hs M (List.mem_cons_of_mem _ hM)) L hL
  exact go _ _ h
theorem max_int (a b : Nat) : (if (b : Int) > (a : Int) then (b : Int) else (a : Int)) = ((max a b : Nat) : Int) := by
  split <;> omega
section
variable {S : Sto} {kvs : List (Key × EV.D)} {c0 c1 : Cell} {Ls : List (List Pr)} {L : List Pr} {n i : Nat} {q : Pr}
theorem lvs_item (h : n < Ls.length) : itemAt (lvSto S c0 (.lst (locs (S.length + 2) Ls.length)) Ls) (.loc (S.length + 1)) (.int (n : Int)) = some (.loc (S.length + 2 + n)) :=
  itemAt_loc lvSto_1 (locs_get _ _ _ h)
theorem lvs_kind (h : Ls[n]? = some L) : mkind (lvSto S c0 c1 Ls) (.loc (S.length + 2 + n)) = some true := by
  unfold mkind
  simp only [lvSto_lv h]
theorem lvs_app (h : Ls[n]? = some L) (hl : L.length < sizeLine) {d : EV.D} (hd : d = prD q) : bmeth S.length .append true (lvSto S c0 c1 Ls) (.loc (S.length + 2 + n)) [d] = some (.d .non, lvSto S c0 c1 (Ls.set n (L ++ [q]))) := by
  subst hd
  unfold bmeth
  simp only [lvSto_lv h, if_true, lmeth, mApp]
  rw [if_pos ⟨okIn_le (by omega), by simpa using hl⟩, ← lvSto_setL]
  simp
theorem lvs_put (hl : kvs.length < sizeLine) {d : EV.D} : setIx S.length (lvSto S (.dK kvs) c1 Ls) (.loc S.length) (.int (i : Int)) d = some (lvSto S (.dK (putG kvs (.inl (i : Int)) d)) c1 Ls) := by
  unfold setIx
  simp only [okIn_le (Nat.le_refl _), if_true, lvSto_0, EV.D.key, hl, lvSto_set0]
theorem lvs_get {d : EV.D} : bmeth S.length .get false (lvSto S (.dK kvs) c1 Ls) (.loc S.length) [.int (i : Int), d] = some (.d ((valG kvs (.inl (i : Int))).getD d), lvSto S (.dK kvs) c1 Ls) := by
  unfold bmeth
  simp only [lvSto_0, if_true, dmeth, dget, EV.D.key, Option.map_some]
theorem lvs_kindD : mkind (lvSto S (.dK kvs) c1 Ls) (.loc S.length) = some false := by
  unfold mkind
  simp only [lvSto_0]
theorem lvs_kindL {ds : List EV.D} : mkind (lvSto S c0 (.lst ds) Ls) (.loc (S.length + 1)) = some true := by
  unfold mkind
  simp only [lvSto_1]
theorem lvs_lenL : bLen (lvSto S c0 (.lst (locs (S.length + 2) Ls.length)) Ls) (.loc (S.length + 1)) = some (.d (.int (Ls.length : Int))) := by
  simp only [bLen, seqOf, tupOf, lstOf, lvSto_1, locs_len]
theorem lvs_more (hl : Ls.length < sizeLine) : bmeth S.length .append true (lvSto S c0 (.lst (locs (S.length + 2) Ls.length)) Ls ++ [.lst []]) (.loc (S.length + 1)) [.loc (lvSto S c0 (.lst (locs (S.length + 2) Ls.length)) Ls).length] = some (.d .non, lvSto S c0 (.lst (locs (S.length + 2) (Ls ++ [[]]).length)) (Ls ++ [[]])) := by
  rw [lvSto_new, lvSto_len]
  unfold bmeth
  simp only [lvSto_1, if_true, lmeth, mApp]
  rw [if_pos ⟨okIn_le (by omega), by rw [locs_len]; exact hl⟩, lvSto_set1, List.length_append, List.length_singleton, locs_succ]
theorem lvs_kindN {ds : List EV.D} : mkind (lvSto S c0 (.lst ds) Ls ++ [.lst []]) (.loc (S.length + 1)) = some true := by
  rw [lvSto_new]
  exact lvs_kindL
end
section
variable {pg : Pg} {x : Ix}
/-- what holds before each turn -/
structure LvI (m : Nat) (s : Nw.St) (kvs : List (Key × EV.D)) : Prop where
  good : Good s
  free : FreeD kvs s.free
  klen : kvs.length ≤ 2 * m
  llen : s.levels.length ≤ m
  short : Short m s.levels
theorem levelled_run (h0 : pg.defs[x.f F.levelled]? = some (Df_levelled x)) {J : Nat} (hJ : 1 ≤ J) (ps : List Pr) (hps : ps.length ≤ 1000000) (v : EV.D) (hv : v = .lst (ps.map prD) ∨ v = .tup (ps.map prD)) (B : Nat) (S : Sto) :
    run pg J (x.f F.levelled) [v] B S = some (.tup ((lvs ps).levels.map fun L => lvD (soP L)), S) := by
  obtain ⟨J, rfl⟩ : ∃ j, J = j + 1 := ⟨J - 1, by omega⟩
  have c1 := for_inv (tg := fun d ρ S' => asg (clJ pg J) S.length (levelled_t3 x) d ρ S') (body := fun ρ S' => excs (clJ pg J) S.length (levelled_b4 x) ρ S') (ws := []) (S0 := lvSto S (.dK []) (.lst []) []) prD
    (fun (d : List Pr) ρ S' => ∃ kvs a b e, LvI d.length (lvs d) kvs ∧ S' = lvSto S (.dK kvs) (.lst (locs (S.length + 2) (lvs d).levels.length)) (lvs d).levels ∧ ρ = [some v, some (.loc S.length), some (.loc (S.length + 1)), a, b, e, none]) (fun _ _ _ _ => rfl) ps []
    [some v, some (.loc S.length), some (.loc (S.length + 1)), none, none, none, none] (lvSto S (.dK []) (.lst []) [])
    ⟨[], none, none, none, ⟨good_zero, fun i => rfl, by simp, Nat.le_refl _, fun L hL => by cases hL⟩, rfl, rfl⟩ (fun d q r ρ S' hd hI => by
      obtain ⟨kvs, a, b, e, I, rfl, rfl⟩ := hI
      have hdl : d.length + 1 ≤ ps.length := by rw [List.nil_append] at hd; rw [hd]; simp
      have hlv : lvs (d ++ [q]) = (lvs d).add q := by unfold lvs; rw [List.foldl_append]; rfl
      obtain ⟨i, j⟩ := q
      generalize hs : lvs d = s at *
      have hn : max (s.free i) (s.free j) ≤ s.levels.length := Nat.max_le.2 ⟨I.good.le _, I.good.le _⟩
      generalize hN : max (s.free i) (s.free j) = n at hn
      have g1 := I.free i
      have g2 := I.free j
      have hmx := max_int (s.free i) (s.free j)
      rw [hN] at hmx
      have hsl : (sizeLine : Nat) = 16777216 := sizeLine_eq
      have tz2 : tz [EV.D.int (i : Int), .int (j : Int)] = some (.d (prD (i, j))) := tz_ok (by rw [hsl]; simp)
      have tz3 : ∀ a b : EV.D, tz [a, b] = some (.d (.tup [a, b])) := fun a b => tz_ok (by rw [hsl]; simp)
      have ad : ∀ (S : Sto) (a b : Int), binop .Add S (.int a) (.int b) = some (.d (.int (a + b))) := fun _ _ _ => rfl
      have key : ∀ (Ls1 : List (List Pr)) (L1 : List Pr), Ls1[n]? = some L1 → L1.length ≤ d.length → (s.add (i, j)).levels = Ls1.set n (L1 ++ [(i, j)]) →
          ∃ kvs', LvI (d ++ [(i, j)]).length (s.add (i, j)) kvs' ∧ (lvSto S (.dK kvs') (.lst (locs (S.length + 2) Ls1.length)) (Ls1.set n (L1 ++ [(i, j)]))) = lvSto S (.dK kvs') (.lst (locs (S.length + 2) (s.add (i, j)).levels.length)) (s.add (i, j)).levels ∧ kvs' = putG (putG kvs (.inl (i : Int)) (.int ((n : Int) + 1))) (.inl (j : Int)) (.int ((n : Int) + 1)) := fun Ls1 L1 h1 h2 h3 => by
        refine ⟨_, ⟨good_add I.good _, ?_, ?_, ?_, ?_⟩, by rw [h3, List.length_set], rfl⟩
        · have := I.free.put (i, j) n
          show FreeD _ (fr s.free (max (s.free i) (s.free j)) (i, j))
          rw [hN]
          exact this
        · have a1 := putG_len kvs (.inl (i : Int)) (.int ((n : Int) + 1))
          have a2 := putG_len (putG kvs (.inl (i : Int)) (.int ((n : Int) + 1))) (.inl (j : Int)) (.int ((n : Int) + 1))
          have := I.klen
          rw [List.length_append, List.length_singleton]
          omega
        · have := I.llen
          rw [List.length_append, List.length_singleton]
          show (put (max (s.free i) (s.free j)) (i, j) s.levels).length ≤ _
          rw [hN, put_len _ _ _ hn]
          omega
        · rw [List.length_append, List.length_singleton]
          exact short_add I.short _
      have kl := I.klen
      have ll := I.llen
      have kl1 : kvs.length < sizeLine := by omega
      have kl2 : (putG kvs (.inl (i : Int)) (.int ((n : Int) + 1))).length < sizeLine := by
        have a1 := putG_len kvs (.inl (i : Int)) (.int ((n : Int) + 1))
        omega
      rw [hlv]
      by_cases hend : n = s.levels.length
      · obtain ⟨kvs', k1, k2, k3⟩ := key (s.levels ++ [[]]) [] (by rw [hend]; simp) (Nat.zero_le _) (by
          show put (max (s.free i) (s.free j)) (i, j) s.levels = _
          rw [hN, hend, put_end]
          simp)
        refine ⟨_, lvSto S (.dK kvs') (.lst (locs (S.length + 2) (s.add (i, j)).levels.length)) (s.add (i, j)).levels, ?_, kvs', some (.int (i : Int)), some (.int (j : Int)), some (.int (n : Int)), k1, rfl, rfl⟩
        rw [← k2, k3]
        have lzn : lz [] = some (.fl []) := lz_ok (Nat.zero_le _)
        have mo := lvs_more (S := S) (c0 := .dK kvs) (Ls := s.levels) (by omega)
        have it := lvs_item (S := S) (c0 := .dK kvs) (Ls := s.levels ++ [[]]) (n := n) (by rw [hend]; simp)
        have kd := lvs_kind (S := S) (c0 := .dK kvs) (c1 := .lst (locs (S.length + 2) (s.levels ++ [[]]).length)) (Ls := s.levels ++ [[]]) (n := n) (L := []) (by rw [hend]; simp)
        have ap := lvs_app (S := S) (c0 := .dK kvs) (c1 := .lst (locs (S.length + 2) (s.levels ++ [[]]).length)) (Ls := s.levels ++ [[]]) (n := n) (L := []) (q := (i, j)) (d := prD (i, j)) (by rw [hend]; simp) (by rw [hsl]; simp) rfl
        have cd : decide ((n : Int) = (s.levels.length : Int)) = true := by rw [hend]; simp
        simp only [levelled_t3, levelled_b4, excs, exc, ev, evs, evo, evi, evt, asg, asgs, dOf_d, dOf_fl, tOf_some, Option.bind_some, Option.map_some, Option.bind_none, Option.map_none, bfun, EV.b1, EV.b2, setMany, plOf, seqOf, tupOf, lstOf, lsmOf, truth, cmpop, ltD, EV.i2, prD, List.length_cons, List.length_nil, Nat.reduceAdd, Nat.reduceLT, if_true, List.set_cons_zero, List.set_cons_succ, List.getElem?_cons_succ, List.getElem?_cons_zero, Option.join_some, lvs_kindD, lvs_get, g1, g2, hmx, lvs_lenL, eqD_ints, cd, lzn, Vl.place, lvs_kindL, mo, it, kd, tz2, tz3, ad, ap, lvs_put kl1, lvs_put kl2]
      · have hlt : n < s.levels.length := by omega
        have hL : s.levels[n]? = some s.levels[n] := List.getElem?_eq_getElem hlt
        generalize hLn : s.levels[n] = L at hL
        have hLl : L.length ≤ d.length := I.short L (List.mem_of_getElem? hL)
        obtain ⟨kvs', k1, k2, k3⟩ := key s.levels L hL hLl (by
          show put (max (s.free i) (s.free j)) (i, j) s.levels = _
          rw [hN, put_at _ _ _ _ hL])
        refine ⟨_, lvSto S (.dK kvs') (.lst (locs (S.length + 2) (s.add (i, j)).levels.length)) (s.add (i, j)).levels, ?_, kvs', some (.int (i : Int)), some (.int (j : Int)), some (.int (n : Int)), k1, rfl, rfl⟩
        rw [← k2, k3]
        have it := lvs_item (S := S) (c0 := .dK kvs) (Ls := s.levels) (n := n) hlt
        have kd := lvs_kind (S := S) (c0 := .dK kvs) (c1 := .lst (locs (S.length + 2) s.levels.length)) hL
        have ap := lvs_app (S := S) (c0 := .dK kvs) (c1 := .lst (locs (S.length + 2) s.levels.length)) (q := (i, j)) (d := prD (i, j)) hL (by omega) rfl
        have cd : decide ((n : Int) = (s.levels.length : Int)) = false := by rw [decide_eq_false_iff_not]; omega
        simp only [levelled_t3, levelled_b4, excs, exc, ev, evs, evo, evi, evt, asg, asgs, dOf_d, dOf_fl, tOf_some, Option.bind_some, Option.map_some, Option.bind_none, Option.map_none, bfun, EV.b1, EV.b2, setMany, plOf, seqOf, tupOf, lstOf, lsmOf, truth, cmpop, ltD, EV.i2, prD, List.length_cons, List.length_nil, Nat.reduceAdd, Nat.reduceLT, if_true, if_false, Bool.false_eq_true, List.set_cons_zero, List.set_cons_succ, List.getElem?_cons_succ, List.getElem?_cons_zero, Option.join_some, lvs_kindD, lvs_get, g1, g2, hmx, lvs_lenL, eqD_ints, cd, it, kd, tz2, tz3, ad, ap, lvs_put kl1, lvs_put kl2])
  obtain ⟨ρ', S', c2, kvs, a, b, e, I, rfl, rfl⟩ := c1
  rw [List.nil_append] at I c2
  have ll := I.llen
  have hsl : (sizeLine : Nat) = 16777216 := sizeLine_eq
  generalize hs : lvs ps = s at *
  have c3 := comp_map (tg := fun d ρ S' => asg (clJ pg J) S.length (levelled_t2 x) d ρ S') (tst := fun _ S => some (true, S)) (elt := fun ρ S' => dOf (ev (clJ pg J) S.length (levelled_e1 x) ρ S')) (ws := [S.length + 1]) (ρ := wipeE [some v, some (.loc S.length), some (.loc (S.length + 1)), a, b, e, none] [6]) (S0 := lvSto S (.dK kvs) (.lst (locs (S.length + 2) s.levels.length)) s.levels) (S := lvSto S (.dK kvs) (.lst (locs (S.length + 2) s.levels.length)) s.levels)
    (fun i : Nat => EV.D.loc (S.length + 2 + i)) (fun i : Nat => lvD (soP (s.levels[i]?.getD []))) stay_self (List.range s.levels.length) [] (fun i hi => by
      have hi : i < s.levels.length := List.mem_range.1 hi
      have hL : s.levels[i]? = some s.levels[i] := List.getElem?_eq_getElem hi
      generalize hLn : s.levels[i] = L at hL
      have hLl : L.length ≤ ps.length := I.short L (List.mem_of_getElem? hL)
      refine ⟨[some v, some (.loc S.length), some (.loc (S.length + 1)), a, b, e, some (.loc (S.length + 2 + i))], by simp [levelled_t2, asg, wipeE], rfl, ?_⟩
      have so : bSort (lvSto S (.dK kvs) (.lst (locs (S.length + 2) s.levels.length)) s.levels) (.loc (S.length + 2 + i)) = some (.fl ((soP L).map prD)) := by
        simp only [bSort, seqOf, tupOf, lstOf, lvSto_lv hL]
        rw [sortD_prs L (by omega)]
        rfl
      have tu : ∀ (S : Sto) (ds : List EV.D), bTup S (.lst ds) = some (.d (.tup ds)) := fun _ _ => rfl
      simp [levelled_e1, excs, exc, ev, evs, evo, evi, evt, asg, asgs, dOf_d, dOf_fl, tOf_some, Option.bind_some, Option.map_some, Option.bind_none, Option.map_none, bfun, EV.b1, EV.b2, setMany, plOf, seqOf, tupOf, lstOf, lsmOf, truth, cmpop, ltD, EV.i2, so, tu, hL]) (by simp; omega)
  have hrange : (List.range s.levels.length).map (fun i : Nat => EV.D.loc (S.length + 2 + i)) = locs (S.length + 2) s.levels.length := by
    refine List.ext_getElem? fun i => ?_
    rw [List.getElem?_map]
    by_cases hi : i < s.levels.length
    · rw [locs_get _ _ _ hi, List.getElem?_range hi]; rfl
    · rw [List.getElem?_eq_none (by simp; omega), List.getElem?_eq_none (by rw [locs_len]; omega)]; rfl
  have hvals : (List.range s.levels.length).map (fun i : Nat => lvD (soP (s.levels[i]?.getD []))) = s.levels.map fun L => lvD (soP L) := by
    refine List.ext_getElem? fun i => ?_
    rw [List.getElem?_map, List.getElem?_map]
    by_cases hi : i < s.levels.length
    · rw [List.getElem?_range hi]; simp [hi]
    · rw [List.getElem?_eq_none (by simp; omega), List.getElem?_eq_none (by omega)]; rfl
  rw [hrange, hvals, List.nil_append] at c3
  have hpl : ∀ n : Nat, lvSto S (.dK []) (.lst []) [] = S ++ [.dK [], .lst []] := fun _ => rfl
  have lzn : lz [] = some (.fl []) := lz_ok (Nat.zero_le _)
  have tu : ∀ (S : Sto) (ds : List EV.D), bTup S (.lst ds) = some (.d (.tup ds)) := fun _ _ => rfl
  refine run_d h0 (S' := lvSto S (.dK kvs) (.lst (locs (S.length + 2) s.levels.length)) s.levels) (d := .tup (s.levels.map fun L => lvD (soP L))) rfl ?_ (fin_val (unders_map fun L _ => fine_under _ (lvD_fine _)) lvSto_take)
  rw [hpl 0] at c2
  have hl1 : lstOf (lvSto S (.dK kvs) (.lst (locs (S.length + 2) s.levels.length)) s.levels) (.loc (S.length + 1)) = some (locs (S.length + 2) s.levels.length) := by simp only [lstOf, lvSto_1]
  rcases hv with rfl | rfl
  all_goals
    simp only [clJ] at c2 c3
    simp [B_levelled, excs, exc, ev, evs, evo, evi, evt, asg, asgs, dOf_d, dOf_fl, tOf_some, Option.bind_some, Option.map_some, Option.bind_none, Option.map_none, bfun, EV.b1, EV.b2, setMany, plOf, seqOf, tupOf, lstOf, lsmOf, truth, cmpop, ltD, EV.i2, lzn, Vl.place, c2, lvSto_1, c3, tu]
end
end EV
end
section
set_option maxRecDepth 100000
set_option autoImplicit false
/-! slices, zip, small things -/
namespace EV
open PySem L2
theorem cutD_all (xs : List EV.D) : cutD xs none none = xs := by
  unfold cutD
  rw [HT.sIx_none, HT.sIx_none]
  simp
theorem cutD_from (xs : List EV.D) (n : Nat) : cutD xs (some (n : Int)) none = xs.drop n := by
  unfold cutD
  rw [HT.sIx_none, HT.sIx_nat, List.take_of_length_le (by rw [List.length_drop]; omega)]
  by_cases h : n ≤ xs.length
  · rw [Nat.min_eq_left h]
  · rw [Nat.min_eq_right (by omega), List.drop_eq_nil_of_le (Nat.le_refl _), List.drop_eq_nil_of_le (by omega)]
theorem cutD_to (xs : List EV.D) (n : Nat) : cutD xs none (some (n : Int)) = xs.take n := by
  unfold cutD
  rw [HT.sIx_none, HT.sIx_nat, List.drop_zero, Nat.sub_zero]
  by_cases h : n ≤ xs.length
  · rw [Nat.min_eq_left h]
  · rw [Nat.min_eq_right (by omega), List.take_of_length_le (Nat.le_refl _), List.take_of_length_le (by omega)]
theorem cutD_span (xs : List EV.D) (n m : Nat) : cutD xs (some (n : Int)) (some (m : Int)) = (xs.take m).drop n := by
  unfold cutD
  rw [HT.sIx_nat, HT.sIx_nat, List.drop_take]
  by_cases h : n ≤ xs.length
  · by_cases h2 : m ≤ xs.length
    · rw [Nat.min_eq_left h, Nat.min_eq_left h2]
    · rw [Nat.min_eq_left h, Nat.min_eq_right (by omega), List.take_of_length_le (by rw [List.length_drop]; omega), List.take_of_length_le (by rw [List.length_drop]; omega)]
  · rw [Nat.min_eq_right (by omega : xs.length ≤ n), List.drop_eq_nil_of_le (Nat.le_refl _), List.drop_eq_nil_of_le (by omega)]
    simp
/-- all but the last -/
theorem cutD_but1 (xs : List EV.D) : cutD xs none (some (-1)) = xs.dropLast := by
  unfold cutD
  rw [HT.sIx_none, List.drop_zero, Nat.sub_zero]
  have : HT.sIx xs.length xs.length (some (-1)) = xs.length - 1 := by
    simp only [HT.sIx]
    rw [if_pos (by decide)]
    omega
  rw [this, List.dropLast_eq_take]
theorem sl_lst {S : Sto} {xs : List EV.D} {lo hi : Option Int} : slice S (.lst xs) lo hi .one = some (.fl (cutD xs lo hi)) := rfl
theorem sl_lst2 {S : Sto} {xs : List EV.D} {lo : Option Int} : slice S (.lst xs) lo none .by2 = some (.fl (every2 (cutD xs lo none))) := rfl
theorem sl_lstB {S : Sto} {xs : List EV.D} : slice S (.lst xs) none none .back = some (.fl xs.reverse) := rfl
theorem sl_tupB {S : Sto} {xs : List EV.D} : slice S (.tup xs) none none .back = some (.d (.tup xs.reverse)) := rfl
/-- a slice of a tuple is a tuple, whether cut or not -/
theorem sl_tup {S : Sto} {xs : List EV.D} {lo hi : Option Int} : slice S (.tup xs) lo hi .one = some (.d (.tup (cutD xs lo hi))) := by
  simp only [slice, tupOf]
  split
  · rename_i h
    unfold cutD
    rw [h.1, h.2]
    simp
  · rfl
theorem add_lst {S : Sto} {xs ys : List EV.D} (h : xs.length + ys.length ≤ sizeLine) : binop .Add S (.lst xs) (.lst ys) = some (.fl (xs ++ ys)) := by
  simp only [binop, tupOf, lsmOf]
  rw [if_pos h]
theorem add_tup {S : Sto} {xs ys : List EV.D} (h : xs.length + ys.length ≤ sizeLine) : binop .Add S (.tup xs) (.tup ys) = some (.d (.tup (xs ++ ys))) := by
  simp only [binop, tupOf]
  rw [if_pos h]
  cases xs with
  | nil => simp
  | cons x xs =>
    cases ys with
    | nil => simp
    | cons y ys => simp
theorem add_int {S : Sto} {i j : Int} : binop .Add S (.int i) (.int j) = some (.d (.int (i + j))) := rfl
theorem sub_int {S : Sto} {i j : Int} : binop .Sub S (.int i) (.int j) = some (.d (.int (i - j))) := rfl
theorem mul_int {S : Sto} {i j : Int} (hi : -(2 ^ 200) < i ∧ i < 2 ^ 200) (hj : -(2 ^ 200) < j ∧ j < 2 ^ 200) : binop .Mult S (.int i) (.int j) = some (.d (.int (i * j))) := binMul hi hj
theorem div_int {S : Sto} {i j : Int} (h : 0 < j ∧ j < 1073741824) : binop .FloorDiv S (.int i) (.int j) = some (.d (.int (i / j))) := by
  simp only [binop]
  rw [if_pos h]
theorem mod_int {S : Sto} {i j : Int} (h : 0 < j) : binop .Mod S (.int i) (.int j) = some (.d (.int (i % j))) := by
  simp only [binop]
  rw [if_pos h]
theorem len_lst {S : Sto} {xs : List EV.D} : bLen S (.lst xs) = some (.d (.int (xs.length : Int))) := rfl
theorem len_tup {S : Sto} {xs : List EV.D} : bLen S (.tup xs) = some (.d (.int (xs.length : Int))) := rfl
theorem tup_lst {S : Sto} {xs : List EV.D} : bTup S (.lst xs) = some (.d (.tup xs)) := rfl
theorem tup_tup {S : Sto} {xs : List EV.D} : bTup S (.tup xs) = some (.d (.tup xs)) := rfl
theorem lst_lst {S : Sto} {xs : List EV.D} : bLst S (.lst xs) = some (.fl xs) := rfl
theorem lst_tup {S : Sto} {xs : List EV.D} : bLst S (.tup xs) = some (.fl xs) := rfl
theorem ix_lst {S : Sto} {xs : List EV.D} {n : Nat} {a : EV.D} (h : xs[n]? = some a) : itemAt S (.lst xs) (.int (n : Int)) = some a := by
  show atI xs _ = _
  have hl := (List.getElem?_eq_some_iff.mp h).1
  unfold atI ixN
  rw [if_pos (by omega), if_pos (by omega)]
  simpa using h
theorem ix_tup {S : Sto} {xs : List EV.D} {n : Nat} {a : EV.D} (h : xs[n]? = some a) : itemAt S (.tup xs) (.int (n : Int)) = some a := by
  show atI xs _ = _
  have hl := (List.getElem?_eq_some_iff.mp h).1
  unfold atI ixN
  rw [if_pos (by omega), if_pos (by omega)]
  simpa using h
theorem eqI {S : Sto} (i j : Int) : eqD S (.int i) (.int j) = some (decide (i = j)) := by
  rw [eqD_fine (n := 0) (by omega) rfl rfl]
  congr 1
  rw [decide_eq_decide]
  exact ⟨fun h => by injection h, fun h => by rw [h]⟩
theorem eqN {S : Sto} (i j : Nat) : eqD S (.int (i : Int)) (.int (j : Int)) = some (decide (i = j)) := by
  rw [eqI]
  congr 1
  rw [decide_eq_decide]
  omega
theorem eq_nilL {S : Sto} {xs : List EV.D} {n : Nat} (hn : n ≤ 63) (h : D.fines n xs = true) : eqD S (.lst xs) (.lst []) = some (decide (xs = [])) := by
  rw [eqD_fine (n := n + 1) (a := .lst xs) (b := .lst []) (by omega) (by simpa [D.fine] using h) rfl]
  congr 1
  rw [decide_eq_decide]
  exact ⟨fun h => by injection h, fun h => by rw [h]⟩
theorem zip_lst {S : Sto} {xs ys : List EV.D} : zipF [.lst xs, .lst ys] S = some ((zipD xs ys, []), S) := rfl
theorem zip_tup {S : Sto} {xs ys : List EV.D} : zipF [.tup xs, .tup ys] S = some ((zipD xs ys, []), S) := rfl
theorem zipD_zip : ∀ xs ys : List EV.D, zipD xs ys = (xs.zip ys).map fun p => .tup [p.1, p.2]
  | [], ys => by simp [zipD]
  | x :: xs, [] => by simp [zipD]
  | x :: xs, y :: ys => by simp [zipD, zipD_zip xs ys]
theorem every2_map {α : Type} (f : α → EV.D) : ∀ xs : List α, every2 (xs.map f) = (every2 xs).map f
  | [] => rfl
  | [x] => rfl
  | x :: y :: xs => by simp [every2, every2_map f xs]
theorem maxN (a b : Nat) : (if (b : Int) > (a : Int) then (b : Int) else (a : Int)) = ((max a b : Nat) : Int) := by
  split <;> omega
theorem minN (a b : Nat) : (if (b : Int) < (a : Int) then (b : Int) else (a : Int)) = ((min a b : Nat) : Int) := by
  split <;> omega
/-- a list's place is added to -/
theorem app_loc {B n : Nat} {S : Sto} {ys : List EV.D} {d : EV.D} (h : S[n]? = some (.lst ys)) (hb : B ≤ n) (hl : ys.length < sizeLine) : bmeth B .append true S (.loc n) [d] = some (.d .non, S.set n (.lst (ys ++ [d]))) := by
  unfold bmeth
  simp only [h, if_true, lmeth, mApp]
  rw [if_pos ⟨okIn_le hb, hl⟩]
theorem kind_loc {n : Nat} {S : Sto} {ys : List EV.D} (h : S[n]? = some (.lst ys)) : mkind S (.loc n) = some true := by
  unfold mkind
  simp only [h]
theorem sum_ints {α : Type} {S : Sto} (f : α → Int) (xs : List α) : bSum S (.lst (xs.map fun a => EV.D.int (f a))) = some (.d (.int (xs.map f).sum)) := by
  simp only [bSum, lstOf, Option.bind_some, intsOf_map]
theorem all_bls {α : Type} {S : Sto} (f : α → Bool) (xs : List α) : bAll S (.lst (xs.map fun a => EV.D.bl (f a))) = some (.d (.bl (xs.all f))) := by
  simp only [bAll, lstOf, Option.bind_some, blsOf_map, List.all_map]
  rfl
theorem any_bls {α : Type} {S : Sto} (f : α → Bool) (xs : List α) : bAny S (.lst (xs.map fun a => EV.D.bl (f a))) = some (.d (.bl (xs.any f))) := by
  simp only [bAny, lstOf, Option.bind_some, blsOf_map, List.any_map]
  rfl
theorem ltI2 {i j : Int} : ltT (.int i) (.int j) = some (decide (i < j)) := rfl
section
variable {c : Cl} {b : Nat} {es : Exs} {ρ : En} {S S' : Sto}
theorem rngB {n : Int} (h : evs c b es ρ S = some ([.int n], S')) : evi c b (.rng es) ρ S = if smallZ n = true then some ((rangeD 0 n.toNat, []), S') else none := by
  rw [evi, h]
  rfl
theorem rngB2 {lo hi : Int} (h : evs c b es ρ S = some ([.int lo, .int hi], S')) : evi c b (.rng es) ρ S = if (smallZ lo && smallZ hi) = true then some ((rangeD lo (hi - lo).toNat, []), S') else none := by
  rw [evi, h]
  rfl
theorem rngB3 {lo hi st : Int} (h : evs c b es ρ S = some ([.int lo, .int hi, .int st], S')) : evi c b (.rng es) ρ S = if (smallZ lo && smallZ hi && (decide (st = -1) || decide (0 < st ∧ st < 1073741824))) = true then some ((rangeS lo st (rangeN lo hi st), []), S') else none := by
  rw [evi, h]
  rfl
/-- range(n) -/
theorem rng1 {e : Ex} {n : Nat} (h : dOf (ev c b e ρ S) = some (.int (n : Int), S')) (hn : n < 4611686018427387904) : evi c b (.rng (.cons e .nil)) ρ S = some (((List.range n).map fun i : Nat => EV.D.int (i : Int), []), S') := by
  rw [rngB (n := (n : Int)) (S' := S') (by rw [evs, h]; rfl), if_pos (smallZ_nat hn), Int.toNat_natCast, range0]
theorem smallZ_int {i : Int} (h : -4611686018427387904 ≤ i ∧ i < 4611686018427387904) : smallZ i = true := by
  unfold smallZ
  rw [decide_eq_true_eq]
  omega
/-- range(lo, hi) -/
theorem rng2 {e f : Ex} {lo hi : Int} {S1 : Sto} (h1 : dOf (ev c b e ρ S) = some (.int lo, S1)) (h2 : dOf (ev c b f ρ S1) = some (.int hi, S')) (hlo : -4611686018427387904 ≤ lo ∧ lo < 4611686018427387904) (hhi : -4611686018427387904 ≤ hi ∧ hi < 4611686018427387904) : evi c b (.rng (.cons e (.cons f .nil))) ρ S = some (((List.range (hi - lo).toNat).map fun i : Nat => EV.D.int (lo + (i : Int)), []), S') := by
  rw [rngB2 (lo := lo) (hi := hi) (S' := S') (by rw [evs, h1, Option.bind_some, evs, h2]; rfl), smallZ_int hlo, smallZ_int hhi, rangeD_eq]
  rfl
theorem rangeS_eq : ∀ (n : Nat) (lo st : Int), rangeS lo st n = (List.range n).map fun i : Nat => EV.D.int (lo + st * (i : Int))
  | 0, lo, st => rfl
  | n + 1, lo, st => by
    rw [rangeS, rangeS_eq n (lo + st) st, List.range_succ_eq_map]
    simp only [List.map_cons, List.map_map, Int.natCast_zero, Int.mul_zero, Int.add_zero]
    congr 1
    refine List.map_congr_left fun i _ => ?_
    simp only [Function.comp, Nat.succ_eq_add_one, Int.natCast_add, Int.mul_add]
    congr 1
    simp
    omega
/-- range(lo, hi, st) upwards -/
theorem rng3 {e f g : Ex} {lo hi st : Int} {S1 S2 : Sto} (h1 : dOf (ev c b e ρ S) = some (.int lo, S1)) (h2 : dOf (ev c b f ρ S1) = some (.int hi, S2)) (h3 : dOf (ev c b g ρ S2) = some (.int st, S')) (hlo : -4611686018427387904 ≤ lo ∧ lo < 4611686018427387904) (hhi : -4611686018427387904 ≤ hi ∧ hi < 4611686018427387904) (hst : 0 < st ∧ st < 1073741824) : evi c b (.rng (.cons e (.cons f (.cons g .nil)))) ρ S = some (((List.range ((hi - lo + st - 1) / st).toNat).map fun i : Nat => EV.D.int (lo + st * (i : Int)), []), S') := by
  have hn : rangeN lo hi st = ((hi - lo + st - 1) / st).toNat := by
    unfold rangeN
    rw [if_neg (by omega)]
  rw [rngB3 (lo := lo) (hi := hi) (st := st) (S' := S') (by rw [evs, h1, Option.bind_some, evs, h2, Option.bind_some, evs, h3]; rfl), smallZ_int hlo, smallZ_int hhi, decide_eq_true hst, rangeS_eq, hn]
  simp
/-- range(lo, hi, -1) -/
theorem rngD {e f g : Ex} {lo hi : Int} {S1 S2 : Sto} (h1 : dOf (ev c b e ρ S) = some (.int lo, S1)) (h2 : dOf (ev c b f ρ S1) = some (.int hi, S2)) (h3 : dOf (ev c b g ρ S2) = some (.int (-1), S')) (hlo : -4611686018427387904 ≤ lo ∧ lo < 4611686018427387904) (hhi : -4611686018427387904 ≤ hi ∧ hi < 4611686018427387904) : evi c b (.rng (.cons e (.cons f (.cons g .nil)))) ρ S = some (((List.range (lo - hi).toNat).map fun i : Nat => EV.D.int (lo - (i : Int)), []), S') := by
  have hn : rangeN lo hi (-1) = (lo - hi).toNat := by
    unfold rangeN
    rw [if_pos rfl]
  rw [rngB3 (lo := lo) (hi := hi) (st := -1) (S' := S') (by rw [evs, h1, Option.bind_some, evs, h2, Option.bind_some, evs, h3]; rfl), smallZ_int hlo, smallZ_int hhi, rangeS_eq, hn]
  simp only [decide_true, Bool.true_or, Bool.and_self, if_true]
  congr 4
  funext i
  congr 1
  omega
end
end EV
end
section
set_option maxRecDepth 100000
set_option autoImplicit false
set_option maxHeartbeats 8000000
/-! merging, side by side, ordering: walked -/
namespace EV
open PySem L2 Nw
theorem every2_evs {α : Type} : ∀ l : List α, every2 l = Nw.evs l
  | [] => rfl
  | [x] => rfl
  | x :: y :: l => by simp [every2, Nw.evs, every2_evs l]
theorem every2_ods {α : Type} : ∀ l : List α, every2 (l.drop 1) = ods l
  | [] => rfl
  | [x] => rfl
  | [x, y] => rfl
  | x :: y :: z :: l => by
    have := every2_ods (z :: l)
    simp only [List.drop_succ_cons, List.drop_zero] at this ⊢
    show y :: every2 l = y :: ods (z :: l)
    rw [this]
theorem zip_zp : ∀ l m : List Nat, zipD (l.map nI) (m.map nI) = (zp l m).map prD
  | [], m => by simp [zipD, zp]
  | a :: l, [] => by simp [zipD, zp]
  | a :: l, b :: m => by simp [zipD, zp, zip_zp l m]
theorem zp_len : ∀ l m : List Nat, (zp l m).length ≤ l.length
  | [], m => by simp [zp]
  | a :: l, [] => by simp [zp]
  | a :: l, b :: m => by simp [zp, zp_len l m]
theorem mrg_len : ∀ (k : Nat) (one other : List Nat), (mrg k one other).length ≤ k * (one.length + other.length)
  | 0, one, other => by simp [mrg]
  | k + 1, one, other => by
    unfold mrg
    split
    · simp
    · split
      · have := zp_len one other
        rw [Nat.add_mul]
        omega
      · have h1 := mrg_len k (Nw.evs one) (Nw.evs other)
        have h2 := mrg_len k (ods one) (ods other)
        have h3 := zp_len (ods (one ++ other)) (Nw.evs ((one ++ other).drop 2))
        rw [Nw.evs_len, Nw.evs_len] at h1
        rw [Nw.ods_len, Nw.ods_len] at h2
        rw [Nw.ods_len, List.length_append] at h3
        rw [List.length_append, List.length_append]
        have e : k * ((one.length + 1) / 2 + (other.length + 1) / 2) + k * (one.length / 2 + other.length / 2) = k * (one.length + other.length) := by
          rw [← Nat.mul_add]
          congr 1
          omega
        rw [Nat.add_mul]
        omega
theorem fines_nI (l : List Nat) (n : Nat) : D.fines n (l.map nI) = true := fines_map fun a _ => by cases n <;> rfl
theorem map_nil_iff {α β : Type} {f : α → β} {l : List α} : l.map f = [] ↔ l = [] := by cases l <;> simp
section
variable {pg : Pg} {x : Ix}
theorem one_one {one other : List Nat} {k : Nat} (h1 : one.length = 1) (h2 : other.length = 1) (J : Nat) (S : Sto) : excs (clJ pg J) S.length (B_merging x) ([EV.D.lst (one.map nI), .lst (other.map nI)].map some ++ List.replicate (4 - 2) none) S = some (.rt (.lst ((mrg (k + 1) one other).map prD)) S) := by
  obtain ⟨a, rfl⟩ := List.length_eq_one_iff.1 h1
  obtain ⟨b, rfl⟩ := List.length_eq_one_iff.1 h2
  have lzn : ∀ ds : List EV.D, ds.length ≤ 1 → lz ds = some (.fl ds) := fun ds h => lz_ok (by rw [sizeLine_eq]; omega)
  have lz1 : ∀ d : EV.D, lz [d] = some (.fl [d]) := fun d => lzn _ (by simp)
  have tzn : ∀ a b : EV.D, tz [a, b] = some (.d (.tup [a, b])) := fun a b => tz_ok (by rw [sizeLine_eq]; simp)
  have i0 : ∀ (S : Sto) (d : EV.D), itemAt S (.lst [d]) (.int 0) = some d := fun S d => rfl
  have l1 : ∀ (S : Sto) (d : EV.D), bLen S (.lst [d]) = some (.d (.int 1)) := fun S d => rfl
  have e1 : ∀ S : Sto, eqD S (.int 1) (.int 1) = some true := fun S => by rw [eqI]; rfl
  have q1 : ∀ (S : Sto) (n : Nat), eqD S (.lst [nI n]) (.lst []) = some false := fun S n => (eq_nilL (xs := [nI n]) (n := 0) (by omega) rfl).trans (by simp)
  have hm : mrg (k + 1) [a] [b] = [(a, b)] := by simp [mrg, zp]
  rw [hm]
  simp only [B_merging, excs, exc, ev, evs, evo, evi, evt, asg, asgs, dOf_d, dOf_fl, tOf_some, Option.bind_some, Option.map_some, Option.bind_none, Option.map_none, bfun, EV.b1, EV.b2, setMany, plOf, seqOf, tupOf, lstOf, lsmOf, truth, cmpop, ltD, EV.i2, List.map_cons, List.map_nil, List.length_cons, List.length_nil, Nat.reduceAdd, Nat.reduceLT, Nat.reduceSub, if_true, if_false, Bool.false_eq_true, List.set_cons_zero, List.set_cons_succ, List.getElem?_cons_succ, List.getElem?_cons_zero, Option.join_some, List.cons_append, List.nil_append, List.replicate, decide_true, decide_false, Bool.not_true, Bool.not_false, reduceCtorEq, q1, lzn, lz1, Nat.zero_le, tzn, l1, e1, i0]
theorem merging_run (h0 : pg.defs[x.f F.merging]? = some (Df_merging x)) : ∀ (k : Nat), k ≤ 1000 → ∀ (one other : List Nat), one.length ≤ 2 ^ k → other.length ≤ 2 ^ k → one.length + other.length ≤ 2000 → ∀ {J : Nat}, k + 1 ≤ J → ∀ (B : Nat) (S : Sto), run pg J (x.f F.merging) [.lst (one.map nI), .lst (other.map nI)] B S = some (.lst ((mrg (k + 1) one other).map prD), S) := by
  intro k
  induction k with
  | zero =>
    intro _ one other h1 h2 h3 J hJ B S
    obtain ⟨J, rfl⟩ : ∃ j, J = j + 1 := ⟨J - 1, by omega⟩
    refine run_d h0 (S' := S) (d := .lst ((mrg 1 one other).map prD)) rfl ?_ (fin_val (unders_map fun p _ => rfl) (by simp))
    have q1 : ∀ S, eqD S (.lst (one.map nI)) (.lst []) = some (decide (one = [])) := fun S => by rw [eq_nilL (n := 0) (by omega) (fines_nI _ _)]; simp
    have q2 : ∀ S, eqD S (.lst (other.map nI)) (.lst []) = some (decide (other = [])) := fun S => by rw [eq_nilL (n := 0) (by omega) (fines_nI _ _)]; simp
    have lzn : ∀ ds : List EV.D, ds.length ≤ 1 → lz ds = some (.fl ds) := fun ds h => lz_ok (by rw [sizeLine_eq]; omega)
    have tzn : ∀ a b : EV.D, tz [a, b] = some (.d (.tup [a, b])) := fun a b => tz_ok (by rw [sizeLine_eq]; simp)
    by_cases n1 : one = []
    · have d1 := decide_eq_true n1
      have hm : mrg 1 one other = [] := by rw [mrg, if_pos (.inl n1)]
      rw [hm]
      simp only [B_merging, excs, exc, ev, evs, evo, evi, evt, asg, asgs, dOf_d, dOf_fl, tOf_some, Option.bind_some, Option.map_some, Option.bind_none, Option.map_none, bfun, EV.b1, EV.b2, setMany, plOf, seqOf, tupOf, lstOf, lsmOf, truth, cmpop, ltD, EV.i2, List.map_cons, List.map_nil, List.length_cons, List.length_nil, Nat.reduceAdd, Nat.reduceLT, Nat.reduceSub, if_true, if_false, Bool.false_eq_true, List.set_cons_zero, List.set_cons_succ, List.getElem?_cons_succ, List.getElem?_cons_zero, Option.join_some, List.cons_append, List.nil_append, List.replicate, decide_true, decide_false, Bool.not_true, Bool.not_false, reduceCtorEq, q1, d1, lzn, Nat.zero_le]
    by_cases n2 : other = []
    · have d1 := decide_eq_false n1
      have d2 := decide_eq_true n2
      have hm : mrg 1 one other = [] := by rw [mrg, if_pos (.inr n2)]
      rw [hm]
      simp only [B_merging, excs, exc, ev, evs, evo, evi, evt, asg, asgs, dOf_d, dOf_fl, tOf_some, Option.bind_some, Option.map_some, Option.bind_none, Option.map_none, bfun, EV.b1, EV.b2, setMany, plOf, seqOf, tupOf, lstOf, lsmOf, truth, cmpop, ltD, EV.i2, List.map_cons, List.map_nil, List.length_cons, List.length_nil, Nat.reduceAdd, Nat.reduceLT, Nat.reduceSub, if_true, if_false, Bool.false_eq_true, List.set_cons_zero, List.set_cons_succ, List.getElem?_cons_succ, List.getElem?_cons_zero, Option.join_some, List.cons_append, List.nil_append, List.replicate, decide_true, decide_false, Bool.not_true, Bool.not_false, reduceCtorEq, q1, q2, d1, d2, lzn, Nat.zero_le]
    have g1 : one.length = 1 := by
      have : one.length ≠ 0 := fun h => n1 (List.length_eq_zero_iff.1 h)
      omega
    have g2 : other.length = 1 := by
      have : other.length ≠ 0 := fun h => n2 (List.length_eq_zero_iff.1 h)
      omega
    exact one_one g1 g2 J S
  | succ k ih =>
    intro hk one other h1 h2 h3 J hJ B S
    obtain ⟨J, rfl⟩ : ∃ j, J = j + 1 := ⟨J - 1, by omega⟩
    refine run_d h0 (S' := S) (d := .lst ((mrg (k + 2) one other).map prD)) rfl ?_ (fin_val (unders_map fun p _ => rfl) (by simp))
    have q1 : ∀ S, eqD S (.lst (one.map nI)) (.lst []) = some (decide (one = [])) := fun S => by rw [eq_nilL (n := 0) (by omega) (fines_nI _ _)]; simp
    have q2 : ∀ S, eqD S (.lst (other.map nI)) (.lst []) = some (decide (other = [])) := fun S => by rw [eq_nilL (n := 0) (by omega) (fines_nI _ _)]; simp
    have lzn : ∀ ds : List EV.D, ds.length ≤ 1 → lz ds = some (.fl ds) := fun ds h => lz_ok (by rw [sizeLine_eq]; omega)
    have tzn : ∀ a b : EV.D, tz [a, b] = some (.d (.tup [a, b])) := fun a b => tz_ok (by rw [sizeLine_eq]; simp)
    by_cases n1 : one = []
    · have d1 := decide_eq_true n1
      have hm : mrg (k + 2) one other = [] := by rw [mrg, if_pos (.inl n1)]
      rw [hm]
      simp only [B_merging, excs, exc, ev, evs, evo, evi, evt, asg, asgs, dOf_d, dOf_fl, tOf_some, Option.bind_some, Option.map_some, Option.bind_none, Option.map_none, bfun, EV.b1, EV.b2, setMany, plOf, seqOf, tupOf, lstOf, lsmOf, truth, cmpop, ltD, EV.i2, List.map_cons, List.map_nil, List.length_cons, List.length_nil, Nat.reduceAdd, Nat.reduceLT, Nat.reduceSub, if_true, if_false, Bool.false_eq_true, List.set_cons_zero, List.set_cons_succ, List.getElem?_cons_succ, List.getElem?_cons_zero, Option.join_some, List.cons_append, List.nil_append, List.replicate, decide_true, decide_false, Bool.not_true, Bool.not_false, reduceCtorEq, q1, d1, lzn, Nat.zero_le]
    by_cases n2 : other = []
    · have d1 := decide_eq_false n1
      have d2 := decide_eq_true n2
      have hm : mrg (k + 2) one other = [] := by rw [mrg, if_pos (.inr n2)]
      rw [hm]
      simp only [B_merging, excs, exc, ev, evs, evo, evi, evt, asg, asgs, dOf_d, dOf_fl, tOf_some, Option.bind_some, Option.map_some, Option.bind_none, Option.map_none, bfun, EV.b1, EV.b2, setMany, plOf, seqOf, tupOf, lstOf, lsmOf, truth, cmpop, ltD, EV.i2, List.map_cons, List.map_nil, List.length_cons, List.length_nil, Nat.reduceAdd, Nat.reduceLT, Nat.reduceSub, if_true, if_false, Bool.false_eq_true, List.set_cons_zero, List.set_cons_succ, List.getElem?_cons_succ, List.getElem?_cons_zero, Option.join_some, List.cons_append, List.nil_append, List.replicate, decide_true, decide_false, Bool.not_true, Bool.not_false, reduceCtorEq, q1, q2, d1, d2, lzn, Nat.zero_le]
    have e1 : ∀ (S : Sto) (l : List Nat), eqD S (.int ((l.map nI).length : Int)) (.int 1) = some (decide (l.length = 1)) := fun S l => by
      rw [show (1 : Int) = ((1 : Nat) : Int) from rfl, eqN, List.length_map]
    by_cases hone : one.length = 1 ∧ other.length = 1
    · exact one_one hone.1 hone.2 J S
    · have pw : (2 : Nat) ^ (k + 1) = 2 * 2 ^ k := by rw [Nat.pow_succ]; omega
      have r1 := fun B S => ih (by omega) (Nw.evs one) (Nw.evs other) (by rw [Nw.evs_len]; omega) (by rw [Nw.evs_len]; omega) (by rw [Nw.evs_len, Nw.evs_len]; omega) (J := J) (by omega) B S
      have r2 := fun B S => ih (by omega) (ods one) (ods other) (by rw [Nw.ods_len]; omega) (by rw [Nw.ods_len]; omega) (by rw [Nw.ods_len, Nw.ods_len]; omega) (J := J) (by omega) B S
      have s0 : ∀ (S : Sto) (l : List Nat), slice S (.lst (l.map nI)) none none .by2 = some (.fl ((Nw.evs l).map nI)) := fun S l => by rw [sl_lst2, cutD_all, every2_map, every2_evs]
      have s1 : ∀ (S : Sto) (l : List Nat), slice S (.lst (l.map nI)) (some 1) none .by2 = some (.fl ((ods l).map nI)) := fun S l => by
        rw [show (1 : Int) = ((1 : Nat) : Int) from rfl, sl_lst2, cutD_from, ← List.map_drop, every2_map, every2_ods]
      have s2 : ∀ (S : Sto) (l : List Nat), slice S (.lst (l.map nI)) (some 2) none .by2 = some (.fl ((Nw.evs (l.drop 2)).map nI)) := fun S l => by
        rw [show (2 : Int) = ((2 : Nat) : Int) from rfl, sl_lst2, cutD_from, ← List.map_drop, every2_map, every2_evs]
      have m1 := mrg_len (k + 1) (Nw.evs one) (Nw.evs other)
      have m2 := mrg_len (k + 1) (ods one) (ods other)
      rw [Nw.evs_len, Nw.evs_len] at m1
      rw [Nw.ods_len, Nw.ods_len] at m2
      have m1' : (mrg (k + 1) (Nw.evs one) (Nw.evs other)).length ≤ 1001 * 2000 := Nat.le_trans m1 (Nat.mul_le_mul (by omega) (by omega))
      have m2' : (mrg (k + 1) (ods one) (ods other)).length ≤ 1001 * 2000 := Nat.le_trans m2 (Nat.mul_le_mul (by omega) (by omega))
      have m3 := zp_len (ods (one ++ other)) (Nw.evs ((one ++ other).drop 2))
      rw [Nw.ods_len, List.length_append] at m3
      have a1 : ∀ S : Sto, binop .Add S (.lst ((mrg (k + 1) (Nw.evs one) (Nw.evs other)).map prD)) (.lst ((mrg (k + 1) (ods one) (ods other)).map prD)) = some (.fl ((mrg (k + 1) (Nw.evs one) (Nw.evs other) ++ mrg (k + 1) (ods one) (ods other)).map prD)) := fun S => by
        rw [add_lst (by rw [sizeLine_eq, List.length_map, List.length_map]; omega), List.map_append]
      have a2 : ∀ S : Sto, binop .Add S (.lst (one.map nI)) (.lst (other.map nI)) = some (.fl ((one ++ other).map nI)) := fun S => by
        rw [add_lst (by rw [sizeLine_eq, List.length_map, List.length_map]; omega), List.map_append]
      have a3 : ∀ S : Sto, binop .Add S (.lst ((mrg (k + 1) (Nw.evs one) (Nw.evs other) ++ mrg (k + 1) (ods one) (ods other)).map prD)) (.lst ((zp (ods (one ++ other)) (Nw.evs ((one ++ other).drop 2))).map prD)) = some (.fl ((mrg (k + 1) (Nw.evs one) (Nw.evs other) ++ mrg (k + 1) (ods one) (ods other) ++ zp (ods (one ++ other)) (Nw.evs ((one ++ other).drop 2))).map prD)) := fun S => by
        rw [add_lst (by rw [sizeLine_eq, List.length_map, List.length_map, List.length_append]; omega)]; simp only [List.map_append]
      have hm : mrg (k + 2) one other = mrg (k + 1) (Nw.evs one) (Nw.evs other) ++ mrg (k + 1) (ods one) (ods other) ++ zp (ods (one ++ other)) (Nw.evs ((one ++ other).drop 2)) := by
        rw [mrg, if_neg (by rintro (h | h) <;> contradiction), if_neg hone]
      rw [hm]
      generalize hA : mrg (k + 1) (Nw.evs one) (Nw.evs other) = A at *
      generalize hB : mrg (k + 1) (ods one) (ods other) = Bm at *
      generalize hC : one ++ other = C at *
      have lz4 : lz ((zp (ods C) (Nw.evs (C.drop 2))).map prD) = some (.fl ((zp (ods C) (Nw.evs (C.drop 2))).map prD)) := lz_ok (by rw [sizeLine_eq, List.length_map]; omega)
      have zz : ∀ S : Sto, zipF [.lst ((ods C).map nI), .lst ((Nw.evs (C.drop 2)).map nI)] S = some (((zp (ods C) (Nw.evs (C.drop 2))).map prD, []), S) := fun S => by rw [zip_lst, zip_zp]
      have d1 := decide_eq_false n1
      have d2 := decide_eq_false n2
      by_cases h11 : one.length = 1
      · have h12 := decide_eq_false (fun h : other.length = 1 => hone ⟨h11, h⟩)
        have h11 := decide_eq_true h11
        simp only [B_merging, excs, exc, ev, evs, evo, evi, evt, asg, asgs, dOf_d, dOf_fl, tOf_some, Option.bind_some, Option.map_some, Option.bind_none, Option.map_none, bfun, EV.b1, EV.b2, setMany, plOf, seqOf, tupOf, lstOf, lsmOf, truth, cmpop, ltD, EV.i2, List.map_cons, List.map_nil, List.length_cons, List.length_nil, Nat.reduceAdd, Nat.reduceLT, Nat.reduceSub, if_true, if_false, Bool.false_eq_true, List.set_cons_zero, List.set_cons_succ, List.getElem?_cons_succ, List.getElem?_cons_zero, Option.join_some, List.cons_append, List.nil_append, List.replicate, decide_true, decide_false, Bool.not_true, Bool.not_false, reduceCtorEq, q1, q2, d1, d2, lzn, Nat.zero_le, len_lst, e1, h11, h12, s0, s1, s2, r1, r2, a1, a2, a3, zz, lz4]
      · have h11 := decide_eq_false h11
        simp only [B_merging, excs, exc, ev, evs, evo, evi, evt, asg, asgs, dOf_d, dOf_fl, tOf_some, Option.bind_some, Option.map_some, Option.bind_none, Option.map_none, bfun, EV.b1, EV.b2, setMany, plOf, seqOf, tupOf, lstOf, lsmOf, truth, cmpop, ltD, EV.i2, List.map_cons, List.map_nil, List.length_cons, List.length_nil, Nat.reduceAdd, Nat.reduceLT, Nat.reduceSub, if_true, if_false, Bool.false_eq_true, List.set_cons_zero, List.set_cons_succ, List.getElem?_cons_succ, List.getElem?_cons_zero, Option.join_some, List.cons_append, List.nil_append, List.replicate, decide_true, decide_false, Bool.not_true, Bool.not_false, reduceCtorEq, q1, q2, d1, d2, lzn, Nat.zero_le, len_lst, e1, h11, s0, s1, s2, r1, r2, a1, a2, a3, zz, lz4]
end
end EV
end
section
set_option maxRecDepth 100000
set_option autoImplicit false
set_option maxHeartbeats 8000000
/-! side by side, ordering: walked -/
namespace EV
open PySem L2 Nw
theorem sd_get (so : List Pr → List Pr) : ∀ (as bs : List (List Pr)) (i : Nat), i < max as.length bs.length → (sd so as bs)[i]? = some (so (as[i]?.getD [] ++ bs[i]?.getD []))
  | [], bs, i, h => by
    have : i < bs.length := by simpa using h
    simp [sd, this]
  | A :: as, [], 0, h => by simp [sd]
  | A :: as, [], i + 1, h => by
    have := sd_get so as [] i (by simp at h ⊢; omega)
    simpa [sd] using this
  | A :: as, B :: bs, 0, h => by simp [sd]
  | A :: as, B :: bs, i + 1, h => by
    have := sd_get so as bs i (by simp at h ⊢; omega)
    simpa [sd] using this
section
variable {pg : Pg} {x : Ix}
theorem side_by_side_run (h0 : pg.defs[x.f F.side_by_side]? = some (Df_side_by_side x)) {J : Nat} (hJ : 1 ≤ J) (as bs : List (List Pr)) (ha : as.length ≤ 1000) (hb : bs.length ≤ 1000) (hA : ∀ A ∈ as, A.length ≤ 1000) (hB : ∀ B ∈ bs, B.length ≤ 1000) (B : Nat) (S : Sto) :
    run pg J (x.f F.side_by_side) [.lst (as.map lvD), .lst (bs.map lvD)] B S = some (.lst ((sd soP as bs).map lvD), S) := by
  obtain ⟨J, rfl⟩ : ∃ j, J = j + 1 := ⟨J - 1, by omega⟩
  have hsl : (sizeLine : Nat) = 16777216 := sizeLine_eq
  have lzn : lz [] = some (.fl []) := lz_ok (Nat.zero_le _)
  have tzn : tz [] = some (.d (.tup [])) := tz_ok (Nat.zero_le _)
  have hmax : max as.length bs.length ≤ 1000 := by omega
  generalize hM : max as.length bs.length = M at hmax
  have hsdl : (sd soP as bs).length = M := by rw [sd_len, hM]
  have c1 := for_inv (tg := fun d ρ S' => asg (clJ pg J) S.length (side_by_side_t1 x) d ρ S') (body := fun ρ S' => excs (clJ pg J) S.length (side_by_side_b5 x) ρ S') (ws := []) (S0 := S ++ [.lst []]) nI
    (fun (d : List Nat) ρ S' => S' = S ++ [.lst (((sd soP as bs).take d.length).map lvD)] ∧ ∃ a b, ρ = [some (.lst (as.map lvD)), some (.lst (bs.map lvD)), some (.loc S.length), a, b]) (fun _ _ _ _ => rfl) (List.range M) []
    [some (.lst (as.map lvD)), some (.lst (bs.map lvD)), some (.loc S.length), none, none] (S ++ [.lst []]) ⟨rfl, none, none, rfl⟩ (fun d i r ρ S' hd hI => by
      obtain ⟨rfl, a, b, rfl⟩ := hI
      have hi : i = d.length ∧ i < M := by
        rw [List.nil_append] at hd
        have h1 : (List.range M)[d.length]? = some i := by rw [hd]; simp
        have h2 := (List.getElem?_eq_some_iff.mp h1)
        have h3 : d.length < M := by simpa using h2.1
        have h4 : d.length = i := by simpa using h2.2
        exact ⟨h4.symm, h4 ▸ h3⟩
      obtain ⟨rfl, hiM⟩ := hi
      have hget := sd_get soP as bs d.length (by omega)
      generalize hX : as[d.length]?.getD [] = X at hget
      generalize hY : bs[d.length]?.getD [] = Y at hget
      have hXl : X.length ≤ 1000 := by
        rw [← hX]
        by_cases h : d.length < as.length
        · rw [List.getElem?_eq_getElem h]; exact hA _ (List.getElem_mem h)
        · rw [List.getElem?_eq_none (by omega)]; simp
      have hYl : Y.length ≤ 1000 := by
        rw [← hY]
        by_cases h : d.length < bs.length
        · rw [List.getElem?_eq_getElem h]; exact hB _ (List.getElem_mem h)
        · rw [List.getElem?_eq_none (by omega)]; simp
      have st : (S ++ [Cell.lst (((sd soP as bs).take d.length).map lvD)])[S.length]? = some (.lst (((sd soP as bs).take d.length).map lvD)) := by simp
      have kd := kind_loc st
      have ap := app_loc (B := S.length) (d := lvD (soP (X ++ Y))) st (Nat.le_refl _) (by rw [hsl, List.length_map, List.length_take]; omega)
      have e1 : (S ++ [Cell.lst (((sd soP as bs).take d.length).map lvD)]).set S.length (.lst (((sd soP as bs).take d.length).map lvD ++ [lvD (soP (X ++ Y))])) = S ++ [.lst (((sd soP as bs).take (d ++ [d.length]).length).map lvD)] := by
        rw [List.set_append_right _ _ (Nat.le_refl _), List.length_append, List.length_singleton, List.take_add_one, hget]
        simp
      rw [e1] at ap
      refine ⟨_, _, ?_, rfl, some (nI d.length), some (.lst ((X ++ Y).map prD)), rfl⟩
      have i1 : ∀ (S' : Sto) (r : Option EV.D), ev (clJ pg J) S.length (side_by_side_x4 x) [some (.lst (as.map lvD)), some (.lst (bs.map lvD)), some (.loc S.length), some (nI d.length), r] S' = some (.d (lvD X), S') := fun S' r => by
        rw [← hX]
        by_cases h : d.length < as.length
        · have h' : (d.length : Int) < (as.length : Int) := by omega
          have hg : as[d.length]? = some as[d.length] := List.getElem?_eq_getElem h
          have ix := ix_lst (S := S') (xs := as.map lvD) (n := d.length) (a := lvD as[d.length]) (by rw [List.getElem?_map, hg]; rfl)
          simp [side_by_side_x3, side_by_side_x4, excs, exc, ev, evs, evo, evi, evt, asg, asgs, dOf_d, dOf_fl, tOf_some, Option.bind_some, Option.map_some, Option.bind_none, Option.map_none, bfun, EV.b1, EV.b2, setMany, plOf, seqOf, tupOf, lstOf, lsmOf, truth, cmpop, ltD, EV.i2, len_lst, ltI2, h', h, ix]
        · have h' : ¬ (d.length : Int) < (as.length : Int) := by omega
          simp [side_by_side_x3, side_by_side_x4, excs, exc, ev, evs, evo, evi, evt, asg, asgs, dOf_d, dOf_fl, tOf_some, Option.bind_some, Option.map_some, Option.bind_none, Option.map_none, bfun, EV.b1, EV.b2, setMany, plOf, seqOf, tupOf, lstOf, lsmOf, truth, cmpop, ltD, EV.i2, len_lst, ltI2, h', h, tzn]
      have i2 : ∀ (S' : Sto) (r : Option EV.D), ev (clJ pg J) S.length (side_by_side_x3 x) [some (.lst (as.map lvD)), some (.lst (bs.map lvD)), some (.loc S.length), some (nI d.length), r] S' = some (.d (lvD Y), S') := fun S' r => by
        rw [← hY]
        by_cases h : d.length < bs.length
        · have h' : (d.length : Int) < (bs.length : Int) := by omega
          have hg : bs[d.length]? = some bs[d.length] := List.getElem?_eq_getElem h
          have ix := ix_lst (S := S') (xs := bs.map lvD) (n := d.length) (a := lvD bs[d.length]) (by rw [List.getElem?_map, hg]; rfl)
          simp [side_by_side_x3, side_by_side_x4, excs, exc, ev, evs, evo, evi, evt, asg, asgs, dOf_d, dOf_fl, tOf_some, Option.bind_some, Option.map_some, Option.bind_none, Option.map_none, bfun, EV.b1, EV.b2, setMany, plOf, seqOf, tupOf, lstOf, lsmOf, truth, cmpop, ltD, EV.i2, len_lst, ltI2, h', h, ix]
        · have h' : ¬ (d.length : Int) < (bs.length : Int) := by omega
          simp [side_by_side_x3, side_by_side_x4, excs, exc, ev, evs, evo, evi, evt, asg, asgs, dOf_d, dOf_fl, tOf_some, Option.bind_some, Option.map_some, Option.bind_none, Option.map_none, bfun, EV.b1, EV.b2, setMany, plOf, seqOf, tupOf, lstOf, lsmOf, truth, cmpop, ltD, EV.i2, len_lst, ltI2, h', h, tzn]
      have lz1 : lz (X.map prD ++ (Y.map prD ++ [])) = some (.fl ((X ++ Y).map prD)) := by
        rw [lz_ok (by rw [hsl]; simp; omega)]
        simp
      have so : ∀ S : Sto, bSort S (.lst ((X ++ Y).map prD)) = some (.fl ((soP (X ++ Y)).map prD)) := fun S => by
        show (sortD ((X ++ Y).map prD)).map Vl.fl = _
        rw [sortD_prs _ (by rw [hsl, List.length_append]; omega)]
        rfl
      simp only [clJ] at i1 i2
      simp only [side_by_side_t1, side_by_side_b5,  excs, exc, ev, evs, evo, evi, evt, asg, asgs, dOf_d, dOf_fl, tOf_some, Option.bind_some, Option.map_some, Option.bind_none, Option.map_none, bfun, EV.b1, EV.b2, setMany, plOf, seqOf, tupOf, lstOf, lsmOf, truth, cmpop, ltD, EV.i2, List.map_cons, List.map_nil, List.length_cons, List.length_nil, Nat.reduceAdd, Nat.reduceLT, Nat.reduceSub, if_true, if_false, Bool.false_eq_true, List.set_cons_zero, List.set_cons_succ, List.getElem?_cons_succ, List.getElem?_cons_zero, Option.join_some, List.cons_append, List.nil_append, List.replicate, decide_true, decide_false, Bool.not_true, Bool.not_false, reduceCtorEq, i1, i2, lz1, kd, so, tup_lst, ap])
  obtain ⟨ρ', S', c2, rfl, a, b, rfl⟩ := c1
  rw [List.nil_append, List.length_range] at c2
  have ht : (sd soP as bs).take M = sd soP as bs := List.take_of_length_le (by omega)
  rw [ht] at c2
  have hr : ∀ (S' : Sto) (r1 r2 : Option EV.D), evi (clJ pg J) S.length (side_by_side_s2 x) [some (.lst (as.map lvD)), some (.lst (bs.map lvD)), some (.loc S.length), r1, r2] S' = some (((List.range M).map nI, []), S') := fun S' r1 r2 => by
    refine rng1 ?_ (by omega)
    have mx := maxN as.length bs.length
    rw [hM] at mx
    simp only [excs, exc, ev, evs, evo, evi, evt, asg, asgs, dOf_d, dOf_fl, tOf_some, Option.bind_some, Option.map_some, Option.bind_none, Option.map_none, bfun, EV.b1, EV.b2, setMany, plOf, seqOf, tupOf, lstOf, lsmOf, truth, cmpop, ltD, EV.i2, List.map_cons, List.map_nil, List.length_cons, List.length_nil, Nat.reduceAdd, Nat.reduceLT, Nat.reduceSub, if_true, if_false, Bool.false_eq_true, List.set_cons_zero, List.set_cons_succ, List.getElem?_cons_succ, List.getElem?_cons_zero, Option.join_some, List.cons_append, List.nil_append, List.replicate, decide_true, decide_false, Bool.not_true, Bool.not_false, reduceCtorEq, len_lst, List.length_map, mx]
  simp only [clJ] at hr c2
  refine run_d h0 (S' := S ++ [.lst ((sd soP as bs).map lvD)]) (d := .loc S.length) rfl ?_ (fin_lst (Nat.le_refl _) (by simp) (unders_map fun L _ => fine_under _ (lvD_fine _)) (by simp))
  simp only [B_side_by_side, excs, exc, ev, evs, evo, evi, evt, asg, asgs, dOf_d, dOf_fl, tOf_some, Option.bind_some, Option.map_some, Option.bind_none, Option.map_none, bfun, EV.b1, EV.b2, setMany, plOf, seqOf, tupOf, lstOf, lsmOf, truth, cmpop, ltD, EV.i2, List.map_cons, List.map_nil, List.length_cons, List.length_nil, Nat.reduceAdd, Nat.reduceLT, Nat.reduceSub, if_true, if_false, Bool.false_eq_true, List.set_cons_zero, List.set_cons_succ, List.getElem?_cons_succ, List.getElem?_cons_zero, Option.join_some, List.cons_append, List.nil_append, List.replicate, decide_true, decide_false, Bool.not_true, Bool.not_false, reduceCtorEq, lzn, Vl.place, hr, c2]
end
end EV
end
section
set_option maxRecDepth 100000
set_option autoImplicit false
set_option maxHeartbeats 8000000
/-! ordering, odd_even, order_cost, pairs_of, neighbours: walked -/
namespace EV
open PySem L2 Nw
structure NetMake (pg : Pg) (x : Ix) : Prop where
  levelled : pg.defs[x.f F.levelled]? = some (Df_levelled x)
  merging : pg.defs[x.f F.merging]? = some (Df_merging x)
  side_by_side : pg.defs[x.f F.side_by_side]? = some (Df_side_by_side x)
  ordering : pg.defs[x.f F.ordering]? = some (Df_ordering x)
  odd_even : pg.defs[x.f F.odd_even]? = some (Df_odd_even x)
  PAIR : pg.con (x.c C.PAIR) = some (.int 2)
/-- all levels of the network are levels -/
theorem ord_lvOk {N k : Nat} {ps : List Nat} (ha : Asc ps) (hN : ∀ a ∈ ps, a < N) : ∀ L ∈ ord soP k ps, LvOk N L := fun L hL => by
  have ok := ord_ok (fun L => soP_perm L) k ps ha.inj L hL
  refine ⟨fun p hp => ⟨ord_asc (fun L => soP_perm L) k ps ha L hL p hp, hN _ (ok.2 p hp).2⟩, ok.1, ?_⟩
  obtain ⟨M, rfl⟩ := ord_so k ps L hL
  exact soP_soP M
theorem LvOk.short {N : Nat} {L : List Pr} (h : LvOk N L) : 2 * L.length ≤ N := level_short h.pw (fun p hp => (h.lt p hp).1) fun p hp => (h.lt p hp).2
section
variable {pg : Pg} {x : Ix}
theorem ordering_run (H : NetMake pg x) {N : Nat} (hN : N ≤ 1000) : ∀ (k : Nat), k ≤ 20 → ∀ ps : List Nat, ps.length ≤ 2 ^ k → ps.length ≤ 1000 → Asc ps → (∀ a ∈ ps, a < N) → ∀ {J : Nat}, 2 * k + 4 ≤ J → ∀ (B : Nat) (S : Sto), run pg J (x.f F.ordering) [.lst (ps.map nI)] B S = some (.lst ((ord soP k ps).map lvD), S) := by
  intro k
  induction k with
  | zero =>
    intro _ ps h1 h2 ha hn J hJ B S
    obtain ⟨J, rfl⟩ : ∃ j, J = j + 1 := ⟨J - 1, by omega⟩
    have lzn : lz [] = some (.fl []) := lz_ok (Nat.zero_le _)
    have hlt : decide ((ps.length : Int) < 2) = true := by rw [decide_eq_true_iff]; simp at h1; omega
    have hP := H.PAIR
    refine run_d H.ordering (S' := S) (d := .lst ((ord soP 0 ps).map lvD)) rfl ?_ (fin_val rfl (by simp))
    simp only [B_ordering, excs, exc, ev, evs, evo, evi, evt, asg, asgs, dOf_d, dOf_fl, tOf_some, Option.bind_some, Option.map_some, Option.bind_none, Option.map_none, bfun, EV.b1, EV.b2, setMany, plOf, seqOf, tupOf, lstOf, lsmOf, truth, cmpop, ltD, EV.i2, List.map_cons, List.map_nil, List.length_cons, List.length_nil, Nat.reduceAdd, Nat.reduceLT, Nat.reduceSub, if_true, if_false, Bool.false_eq_true, List.set_cons_zero, List.set_cons_succ, List.getElem?_cons_succ, List.getElem?_cons_zero, Option.join_some, List.cons_append, List.nil_append, List.replicate, decide_true, decide_false, Bool.not_true, Bool.not_false, reduceCtorEq, len_lst, List.length_map, hP, ltI2, hlt, lzn]
    rfl
  | succ k ih =>
    intro hk ps h1 h2 ha hn J hJ B S
    obtain ⟨J, rfl⟩ : ∃ j, J = j + 1 := ⟨J - 1, by omega⟩
    have lzn : lz [] = some (.fl []) := lz_ok (Nat.zero_le _)
    have hP := H.PAIR
    refine run_d H.ordering (S' := S) (d := .lst ((ord soP (k + 1) ps).map lvD)) rfl ?_ (fin_val (unders_map fun L _ => fine_under _ (lvD_fine _)) (by simp))
    by_cases hlt : ps.length < 2
    · have hlt' : decide ((ps.length : Int) < 2) = true := by rw [decide_eq_true_iff]; omega
      have ho : ord soP (k + 1) ps = [] := by rw [ord, if_pos hlt]
      rw [ho]
      simp only [B_ordering, excs, exc, ev, evs, evo, evi, evt, asg, asgs, dOf_d, dOf_fl, tOf_some, Option.bind_some, Option.map_some, Option.bind_none, Option.map_none, bfun, EV.b1, EV.b2, setMany, plOf, seqOf, tupOf, lstOf, lsmOf, truth, cmpop, ltD, EV.i2, List.map_cons, List.map_nil, List.length_cons, List.length_nil, Nat.reduceAdd, Nat.reduceLT, Nat.reduceSub, if_true, if_false, Bool.false_eq_true, List.set_cons_zero, List.set_cons_succ, List.getElem?_cons_succ, List.getElem?_cons_zero, Option.join_some, List.cons_append, List.nil_append, List.replicate, decide_true, decide_false, Bool.not_true, Bool.not_false, reduceCtorEq, len_lst, List.length_map, hP, ltI2, hlt', lzn]
    · have hlt' : decide ((ps.length : Int) < 2) = false := by rw [decide_eq_false_iff_not]; omega
      have pw : (2 : Nat) ^ (k + 1) = 2 * 2 ^ k := by rw [Nat.pow_succ]; omega
      have dv : ∀ S : Sto, binop .FloorDiv S (.int (ps.length : Int)) (.int 2) = some (.d (.int ((ps.length / 2 : Nat) : Int))) := fun S => div_int ⟨by decide, by decide⟩
      have lt1 : (ps.take (ps.length / 2)).length = ps.length / 2 := by rw [List.length_take]; omega
      have ld1 : (ps.drop (ps.length / 2)).length = ps.length - ps.length / 2 := by rw [List.length_drop]
      have t1 : ∀ S : Sto, slice S (.lst (ps.map nI)) none (some ((ps.length / 2 : Nat) : Int)) .one = some (.fl ((ps.take (ps.length / 2)).map nI)) := fun S => by rw [sl_lst, cutD_to, List.map_take]
      have t2 : ∀ S : Sto, slice S (.lst (ps.map nI)) (some ((ps.length / 2 : Nat) : Int)) none .one = some (.fl ((ps.drop (ps.length / 2)).map nI)) := fun S => by rw [sl_lst, cutD_from, List.map_drop]
      have a1 := asc_take ha (ps.length / 2)
      have a2 := asc_drop ha (ps.length / 2)
      have n1 : ∀ a ∈ ps.take (ps.length / 2), a < N := fun a h => hn a (List.mem_of_mem_take h)
      have n2 : ∀ a ∈ ps.drop (ps.length / 2), a < N := fun a h => hn a (List.mem_of_mem_drop h)
      have o1 := fun B S => ih (by omega) (ps.take (ps.length / 2)) (by omega) (by omega) a1 n1 (J := J) (by omega) B S
      have o2 := fun B S => ih (by omega) (ps.drop (ps.length / 2)) (by omega) (by omega) a2 n2 (J := J) (by omega) B S
      have m1 := fun B S => merging_run H.merging k (by omega) (ps.take (ps.length / 2)) (ps.drop (ps.length / 2)) (by omega) (by omega) (by omega) (J := J) (by omega) B S
      have ml := mrg_len (k + 1) (ps.take (ps.length / 2)) (ps.drop (ps.length / 2))
      have ml2 : (mrg (k + 1) (ps.take (ps.length / 2)) (ps.drop (ps.length / 2))).length ≤ 21 * 1000 := Nat.le_trans ml (Nat.mul_le_mul (by omega) (by omega))
      have v1 := fun B S => levelled_run H.levelled (J := J) (by omega) (mrg (k + 1) (ps.take (ps.length / 2)) (ps.drop (ps.length / 2))) (by omega) _ (.inl rfl) B S
      have k1 := ord_len (so := soP) k (ps.take (ps.length / 2)) a1.inj
      have k2 := ord_len (so := soP) k (ps.drop (ps.length / 2)) a2.inj
      have kk : k * k ≤ 20 * 20 := Nat.mul_le_mul (by omega) (by omega)
      have s1 := fun B S => side_by_side_run H.side_by_side (J := J) (by omega) (ord soP k (ps.take (ps.length / 2))) (ord soP k (ps.drop (ps.length / 2))) (by omega) (by omega)
        (fun A hA => by have := (ord_lvOk (k := k) a1 n1 A hA).short; omega) (fun A hA => by have := (ord_lvOk (k := k) a2 n2 A hA).short; omega) B S
      have lv := lvs_len (k + 1) _ _ a1.inj a2.inj (off_half ha.inj (ps.length / 2))
      have sdl := sd_len soP (ord soP k (ps.take (ps.length / 2))) (ord soP k (ps.drop (ps.length / 2)))
      have ho : ord soP (k + 1) ps = sd soP (ord soP k (ps.take (ps.length / 2))) (ord soP k (ps.drop (ps.length / 2))) ++ (lvs (mrg (k + 1) (ps.take (ps.length / 2)) (ps.drop (ps.length / 2)))).levels.map soP := by rw [ord, if_neg hlt]
      rw [ho]
      generalize sd soP (ord soP k (ps.take (ps.length / 2))) (ord soP k (ps.drop (ps.length / 2))) = A at *
      generalize (lvs (mrg (k + 1) (ps.take (ps.length / 2)) (ps.drop (ps.length / 2)))).levels = V at *
      have ad : ∀ S : Sto, binop .Add S (.lst (A.map lvD)) (.lst (V.map fun L => lvD (soP L))) = some (.fl ((A ++ V.map soP).map lvD)) := fun S => by
        rw [add_lst (by rw [sizeLine_eq, List.length_map, List.length_map]; omega)]
        simp
      simp only [B_ordering, excs, exc, ev, evs, evo, evi, evt, asg, asgs, dOf_d, dOf_fl, tOf_some, Option.bind_some, Option.map_some, Option.bind_none, Option.map_none, bfun, EV.b1, EV.b2, setMany, plOf, seqOf, tupOf, lstOf, lsmOf, truth, cmpop, ltD, EV.i2, List.map_cons, List.map_nil, List.length_cons, List.length_nil, Nat.reduceAdd, Nat.reduceLT, Nat.reduceSub, if_true, if_false, Bool.false_eq_true, List.set_cons_zero, List.set_cons_succ, List.getElem?_cons_succ, List.getElem?_cons_zero, Option.join_some, List.cons_append, List.nil_append, List.replicate, decide_true, decide_false, Bool.not_true, Bool.not_false, reduceCtorEq, len_lst, List.length_map, hP, ltI2, hlt', dv, t1, t2, o1, o2, m1, v1, s1, lst_tup, ad]
theorem odd_even_run (H : NetMake pg x) {k n : Nat} (hk : k ≤ 9) (hn : n ≤ 2 ^ k) {J : Nat} (hJ : 2 * k + 5 ≤ J) (B : Nat) (S : Sto) : run pg J (x.f F.odd_even) [.int (n : Int)] B S = some (.tup ((ord soP k (List.range n)).map lvD), S) := by
  obtain ⟨J, rfl⟩ : ∃ j, J = j + 1 := ⟨J - 1, by omega⟩
  have h9 : (2 : Nat) ^ k ≤ 2 ^ 9 := Nat.pow_le_pow_right (by decide) hk
  have h512 : n ≤ 512 := by omega
  have o1 := fun B S => ordering_run H (N := n) (by omega) k (by omega) (List.range n) (by simpa using hn) (by simp; omega) (asc_range n) (fun a h => List.mem_range.1 h) (J := J) (by omega) B S
  have hr : ∀ S' : Sto, evi (clJ pg J) S.length (odd_even_s1 x) [some (.int (n : Int))] S' = some (((List.range n).map nI, []), S') := fun S' => by
    refine rng1 ?_ (by omega)
    simp only [excs, exc, ev, evs, evo, evi, evt, asg, asgs, dOf_d, dOf_fl, tOf_some, Option.bind_some, Option.map_some, Option.bind_none, Option.map_none, bfun, EV.b1, EV.b2, setMany, plOf, seqOf, tupOf, lstOf, lsmOf, truth, cmpop, ltD, EV.i2, List.map_cons, List.map_nil, List.length_cons, List.length_nil, Nat.reduceAdd, Nat.reduceLT, Nat.reduceSub, if_true, if_false, Bool.false_eq_true, List.set_cons_zero, List.set_cons_succ, List.getElem?_cons_succ, List.getElem?_cons_zero, Option.join_some, List.cons_append, List.nil_append, List.replicate, decide_true, decide_false, Bool.not_true, Bool.not_false, reduceCtorEq]
  have lzn : lz ((List.range n).map nI) = some (.fl ((List.range n).map nI)) := lz_ok (by rw [sizeLine_eq]; simp; omega)
  refine run_d H.odd_even (S' := S) (d := .tup ((ord soP k (List.range n)).map lvD)) rfl ?_ (fin_val (unders_map fun L _ => fine_under _ (lvD_fine _)) (by simp))
  simp only [clJ] at hr
  simp only [B_odd_even, excs, exc, ev, evs, evo, evi, evt, asg, asgs, dOf_d, dOf_fl, tOf_some, Option.bind_some, Option.map_some, Option.bind_none, Option.map_none, bfun, EV.b1, EV.b2, setMany, plOf, seqOf, tupOf, lstOf, lsmOf, truth, cmpop, ltD, EV.i2, List.map_cons, List.map_nil, List.length_cons, List.length_nil, Nat.reduceAdd, Nat.reduceLT, Nat.reduceSub, if_true, if_false, Bool.false_eq_true, List.set_cons_zero, List.set_cons_succ, List.getElem?_cons_succ, List.getElem?_cons_zero, Option.join_some, List.cons_append, List.nil_append, List.replicate, decide_true, decide_false, Bool.not_true, Bool.not_false, reduceCtorEq, hr, lzn, o1, tup_lst]
theorem order_cost_run (H : NetMake pg x) (h0 : pg.defs[x.f F.order_cost]? = some (Df_order_cost x)) {k n : Nat} (hk : k ≤ 9) (hn : n ≤ 2 ^ k) (h1 : 1 ≤ n) {J : Nat} (hJ : 2 * k + 6 ≤ J) (B : Nat) (S : Sto) :
    run pg J (x.f F.order_cost) [.int (n : Int)] B S = some (.tup [nI (ord soP k (List.range n)).length, nI (n * (ord soP k (List.range n)).length), nI (n * (ord soP k (List.range n)).length), nI (ord soP k (List.range n)).flatten.length], S) := by
  obtain ⟨J, rfl⟩ : ∃ j, J = j + 1 := ⟨J - 1, by omega⟩
  have h9 : (2 : Nat) ^ k ≤ 2 ^ 9 := Nat.pow_le_pow_right (by decide) hk
  have h512 : n ≤ 512 := by omega
  have o1 := fun B S => odd_even_run H hk hn (J := J) (by omega) B S
  have hl := ord_len (so := soP) k (List.range n) (asc_range n).inj
  have kk : k * k ≤ 9 * 9 := Nat.mul_le_mul (by omega) (by omega)
  have hg : decide ((0 : Int) < (n : Int)) = true := by rw [decide_eq_true_iff]; omega
  generalize ord soP k (List.range n) = Ls at *
  have ml : ∀ S : Sto, binop .Mult S (.int (n : Int)) (.int (Ls.length : Int)) = some (.d (nI (n * Ls.length))) := fun S => by
    rw [mul_int ⟨by omega, by omega⟩ ⟨by omega, by omega⟩]
    simp
  have x3 : ∀ (S' : Sto) (a b : Option EV.D), ev (clJ pg J) S.length (order_cost_x3 x) [some (.int (n : Int)), a, b] S' = some (.d (.tup (Ls.map lvD)), S') := fun S' a b => by
    simp only [order_cost_x3, excs, exc, ev, evs, evo, evi, evt, asg, asgs, dOf_d, dOf_fl, tOf_some, Option.bind_some, Option.map_some, Option.bind_none, Option.map_none, bfun, EV.b1, EV.b2, setMany, plOf, seqOf, tupOf, lstOf, lsmOf, truth, cmpop, ltD, EV.i2, List.map_cons, List.map_nil, List.length_cons, List.length_nil, Nat.reduceAdd, Nat.reduceLT, Nat.reduceSub, if_true, if_false, Bool.false_eq_true, List.set_cons_zero, List.set_cons_succ, List.getElem?_cons_succ, List.getElem?_cons_zero, Option.join_some, List.cons_append, List.nil_append, List.replicate, decide_true, decide_false, Bool.not_true, Bool.not_false, reduceCtorEq, hg, o1]
  have c1 := comp_map (tg := fun d ρ S' => asg (clJ pg J) S.length (order_cost_t2 x) d ρ S') (tst := fun _ S => some (true, S)) (elt := fun ρ S' => dOf (ev (clJ pg J) S.length (order_cost_e1 x) ρ S')) (ws := []) (ρ := wipeE [some (.int (n : Int)), some (.tup (Ls.map lvD)), none] [2]) (S0 := S) (S := S) lvD (fun L => nI L.length) rfl Ls []
    (fun L _ => ⟨[some (.int (n : Int)), some (.tup (Ls.map lvD)), some (lvD L)], by simp [order_cost_t2, asg, wipeE], rfl, by simp only [order_cost_e1, excs, exc, ev, evs, evo, evi, evt, asg, asgs, dOf_d, dOf_fl, tOf_some, Option.bind_some, Option.map_some, Option.bind_none, Option.map_none, bfun, EV.b1, EV.b2, setMany, plOf, seqOf, tupOf, lstOf, lsmOf, truth, cmpop, ltD, EV.i2, List.map_cons, List.map_nil, List.length_cons, List.length_nil, Nat.reduceAdd, Nat.reduceLT, Nat.reduceSub, if_true, if_false, Bool.false_eq_true, List.set_cons_zero, List.set_cons_succ, List.getElem?_cons_succ, List.getElem?_cons_zero, Option.join_some, List.cons_append, List.nil_append, List.replicate, decide_true, decide_false, Bool.not_true, Bool.not_false, reduceCtorEq, len_tup, List.length_map]⟩) (by rw [sizeLine_eq]; simp; omega)
  have sm : ∀ S : Sto, bSum S (.lst ([] ++ Ls.map fun L => nI L.length)) = some (.d (nI Ls.flatten.length)) := fun S => by
    rw [List.nil_append, sum_ints (fun L : List Pr => (L.length : Int)) Ls]
    congr 3
    clear hl ml o1 x3 c1 H
    induction Ls with
    | nil => rfl
    | cons L Ls ih => simp only [List.map_cons, List.sum_cons, ih, List.flatten_cons, List.length_append, Int.natCast_add]
  have tzn : ∀ a b c d : EV.D, tz [a, b, c, d] = some (.d (.tup [a, b, c, d])) := fun a b c d => tz_ok (by rw [sizeLine_eq]; simp)
  simp only [clJ] at x3 c1
  simp only [List.nil_append] at sm
  refine run_d h0 (S' := S) (d := .tup [nI Ls.length, nI (n * Ls.length), nI (n * Ls.length), nI Ls.flatten.length]) rfl ?_ (fin_val rfl (by simp))
  simp only [B_order_cost, excs, exc, ev, evs, evo, evi, evt, asg, asgs, dOf_d, dOf_fl, tOf_some, Option.bind_some, Option.map_some, Option.bind_none, Option.map_none, bfun, EV.b1, EV.b2, setMany, plOf, seqOf, tupOf, lstOf, lsmOf, truth, cmpop, ltD, EV.i2, List.map_cons, List.map_nil, List.length_cons, List.length_nil, Nat.reduceAdd, Nat.reduceLT, Nat.reduceSub, if_true, if_false, Bool.false_eq_true, List.set_cons_zero, List.set_cons_succ, List.getElem?_cons_succ, List.getElem?_cons_zero, Option.join_some, List.cons_append, List.nil_append, List.replicate, decide_true, decide_false, Bool.not_true, Bool.not_false, reduceCtorEq, x3, len_tup, List.length_map, ml, c1, sm, tzn]
theorem pairs_of_run (h0 : pg.defs[x.f F.pairs_of]? = some (Df_pairs_of x)) {J : Nat} (hJ : 1 ≤ J) (Ls : List (List Pr)) (hl : Ls.flatten.length ≤ 1000000) (B : Nat) (S : Sto) : run pg J (x.f F.pairs_of) [.tup (Ls.map lvD)] B S = some (.tup (Ls.flatten.map prD), S) := by
  obtain ⟨J, rfl⟩ : ∃ j, J = j + 1 := ⟨J - 1, by omega⟩
  have hfl : ∀ Ls : List (List Pr), (Ls.flatMap fun L => L.map prD) = Ls.flatten.map prD := fun Ls => by
    induction Ls with
    | nil => rfl
    | cons L Ls ih => rw [List.flatMap_cons, ih, List.flatten_cons, List.map_append]
  have c1 : comp2T (clJ pg J) S.length (pairs_of_t2 x) (pairs_of_e1 x) (pairs_of_t3 x) (pairs_of_s4 x) [] S (wipeE [some (.tup (Ls.map lvD)), none, none] [1, 2]) (Ls.map lvD) [] S = some ([] ++ Ls.flatMap fun L => L.map prD, S) := by
    refine comp_flat lvD (fun L => L.map prD) rfl sizeLine Ls [] (fun L hL => ?_) (by rw [hfl, sizeLine_eq]; simp only [List.length_nil, List.length_map]; omega)
    refine ⟨[some (.tup (Ls.map lvD)), some (lvD L), none], by simp [pairs_of_t2, asg, wipeE], rfl, fun acc hacc => ?_⟩
    simp only [pairs_of_s4, excs, exc, ev, evs, evo, evi, evt, asg, asgs, dOf_d, dOf_fl, tOf_some, Option.bind_some, Option.map_some, Option.bind_none, Option.map_none, bfun, EV.b1, EV.b2, setMany, plOf, seqOf, tupOf, lstOf, lsmOf, truth, cmpop, ltD, EV.i2, List.map_cons, List.map_nil, List.length_cons, List.length_nil, Nat.reduceAdd, Nat.reduceLT, Nat.reduceSub, if_true, if_false, Bool.false_eq_true, List.set_cons_zero, List.set_cons_succ, List.getElem?_cons_succ, List.getElem?_cons_zero, Option.join_some, List.cons_append, List.nil_append, List.replicate, decide_true, decide_false, Bool.not_true, Bool.not_false, reduceCtorEq]
    exact comp_map (tg := fun d ρ S' => asg (clJ pg J) S.length (pairs_of_t3 x) d ρ S') (tst := fun ρ S => some (true, S)) (elt := fun ρ S' => dOf (ev (clJ pg J) S.length (pairs_of_e1 x) ρ S')) (ws := []) (ρ := wipeE [some (.tup (Ls.map lvD)), some (lvD L), none] (pairs_of_t3 x).slots) (S0 := S) (S := S) prD prD rfl L acc (fun a _ => ⟨[some (.tup (Ls.map lvD)), some (lvD L), some (prD a)], by simp [pairs_of_t3, asg, wipeE, Tg.slots], rfl, by simp only [pairs_of_e1, excs, exc, ev, evs, evo, evi, evt, asg, asgs, dOf_d, dOf_fl, tOf_some, Option.bind_some, Option.map_some, Option.bind_none, Option.map_none, bfun, EV.b1, EV.b2, setMany, plOf, seqOf, tupOf, lstOf, lsmOf, truth, cmpop, ltD, EV.i2, List.map_cons, List.map_nil, List.length_cons, List.length_nil, Nat.reduceAdd, Nat.reduceLT, Nat.reduceSub, if_true, if_false, Bool.false_eq_true, List.set_cons_zero, List.set_cons_succ, List.getElem?_cons_succ, List.getElem?_cons_zero, Option.join_some, List.cons_append, List.nil_append, List.replicate, decide_true, decide_false, Bool.not_true, Bool.not_false, reduceCtorEq]⟩) (by simpa using hacc)
  rw [hfl, List.nil_append] at c1
  simp only [comp2T, clJ] at c1
  refine run_d h0 (S' := S) (d := .tup (Ls.flatten.map prD)) rfl ?_ (fin_val (unders_map fun p _ => rfl) (by simp))
  simp only [B_pairs_of, excs, exc, ev, evs, evo, evi, evt, asg, asgs, dOf_d, dOf_fl, tOf_some, Option.bind_some, Option.map_some, Option.bind_none, Option.map_none, bfun, EV.b1, EV.b2, setMany, plOf, seqOf, tupOf, lstOf, lsmOf, truth, cmpop, ltD, EV.i2, List.map_cons, List.map_nil, List.length_cons, List.length_nil, Nat.reduceAdd, Nat.reduceLT, Nat.reduceSub, if_true, if_false, Bool.false_eq_true, List.set_cons_zero, List.set_cons_succ, List.getElem?_cons_succ, List.getElem?_cons_zero, Option.join_some, List.cons_append, List.nil_append, List.replicate, decide_true, decide_false, Bool.not_true, Bool.not_false, reduceCtorEq, c1, tup_lst]
/-- the levels of neighbours -/
def nbL (n : Nat) : List (List Pr) := (List.range n).map fun t => lv (t % 2) ((n - t % 2) / 2)
theorem lv_map : ∀ (k s : Nat), lv s k = (List.range k).map fun i => (s + 2 * i, s + 2 * i + 1)
  | 0, s => rfl
  | k + 1, s => by
    rw [lv, lv_map k (s + 2), List.range_succ_eq_map]
    simp only [List.map_cons, List.map_map, Nat.mul_zero, Nat.add_zero]
    congr 1
    refine List.map_congr_left fun i _ => ?_
    simp only [Function.comp, Nat.succ_eq_add_one]
    exact Prod.ext (by show s + 2 + 2 * i = s + 2 * (i + 1); omega) (by show s + 2 + 2 * i + 1 = s + 2 * (i + 1) + 1; omega)
theorem nbL_flat (n : Nat) : (nbL n).flatten = nb n n := by
  unfold nbL
  have go : ∀ m : Nat, ((List.range m).map fun t => lv (t % 2) ((n - t % 2) / 2)).flatten = nb n m := fun m => by
    induction m with
    | zero => rfl
    | succ m ih => rw [List.range_succ, List.map_append, List.flatten_append, ih]; simp [nb]
  exact go n
theorem neighbours_run (h0 : pg.defs[x.f F.neighbours]? = some (Df_neighbours x)) {J : Nat} (hJ : 1 ≤ J) (n : Nat) (hn : n ≤ 1000) (B : Nat) (S : Sto) : run pg J (x.f F.neighbours) [.int (n : Int)] B S = some (.tup ((nbL n).map lvD), S) := by
  obtain ⟨J, rfl⟩ : ∃ j, J = j + 1 := ⟨J - 1, by omega⟩
  have s6 : ∀ (S' : Sto) (a b : Option EV.D), evi (clJ pg J) S.length (neighbours_s6 x) [some (.int (n : Int)), a, b] S' = some (((List.range n).map nI, []), S') := fun S' a b => by
    refine rng1 ?_ (by omega)
    simp only [excs, exc, ev, evs, evo, evi, evt, asg, asgs, dOf_d, dOf_fl, tOf_some, Option.bind_some, Option.map_some, Option.bind_none, Option.map_none, bfun, EV.b1, EV.b2, setMany, plOf, seqOf, tupOf, lstOf, lsmOf, truth, cmpop, ltD, EV.i2, List.map_cons, List.map_nil, List.length_cons, List.length_nil, Nat.reduceAdd, Nat.reduceLT, Nat.reduceSub, if_true, if_false, Bool.false_eq_true, List.set_cons_zero, List.set_cons_succ, List.getElem?_cons_succ, List.getElem?_cons_zero, Option.join_some, List.cons_append, List.nil_append, List.replicate, decide_true, decide_false, Bool.not_true, Bool.not_false, reduceCtorEq]
  have c1 := comp_map (tg := fun d ρ S' => asg (clJ pg J) S.length (neighbours_t5 x) d ρ S') (tst := fun _ S => some (true, S)) (elt := fun ρ S' => dOf (ev (clJ pg J) S.length (neighbours_e4 x) ρ S')) (ws := []) (ρ := wipeE [some (.int (n : Int)), none, none] [1]) (S0 := S) (S := S) nI (fun t => lvD (lv (t % 2) ((n - t % 2) / 2))) rfl (List.range n) []
    (fun t ht => ⟨[some (.int (n : Int)), some (nI t), none], by simp [neighbours_t5, asg, wipeE], rfl, by
      have htn : t < n := List.mem_range.1 ht
      have tl : t % 2 < 2 := Nat.mod_lt _ (by decide)
      have m1 : ∀ S : Sto, binop .Mod S (nI t) (.int 2) = some (.d (.int ((t % 2 : Nat) : Int))) := fun S => mod_int (by decide)
      have s3 : ∀ (S' : Sto) (b : Option EV.D), evi (clJ pg J) S.length (neighbours_s3 x) [some (.int (n : Int)), some (nI t), b] S' = some (((List.range ((n - t % 2) / 2)).map fun i : Nat => EV.D.int (((t % 2 + 2 * i : Nat) : Int)), []), S') := fun S' b => by
        have := rng3 (c := clJ pg J) (b := S.length) (e := .bin .Mod (.var 1) (.cst (.int 2))) (f := .bin .Sub (.var 0) (.cst (.int 1))) (g := .cst (.int 2)) (ρ := [some (.int (n : Int)), some (nI t), b]) (S := S') (S1 := S') (S2 := S') (S' := S') (lo := ((t % 2 : Nat) : Int)) (hi := (n : Int) - 1) (st := 2) (by simp only [excs, exc, ev, evs, evo, evi, evt, asg, asgs, dOf_d, dOf_fl, tOf_some, Option.bind_some, Option.map_some, Option.bind_none, Option.map_none, bfun, EV.b1, EV.b2, setMany, plOf, seqOf, tupOf, lstOf, lsmOf, truth, cmpop, ltD, EV.i2, List.map_cons, List.map_nil, List.length_cons, List.length_nil, Nat.reduceAdd, Nat.reduceLT, Nat.reduceSub, if_true, if_false, Bool.false_eq_true, List.set_cons_zero, List.set_cons_succ, List.getElem?_cons_succ, List.getElem?_cons_zero, Option.join_some, List.cons_append, List.nil_append, List.replicate, decide_true, decide_false, Bool.not_true, Bool.not_false, reduceCtorEq, m1]) (by simp only [excs, exc, ev, evs, evo, evi, evt, asg, asgs, dOf_d, dOf_fl, tOf_some, Option.bind_some, Option.map_some, Option.bind_none, Option.map_none, bfun, EV.b1, EV.b2, setMany, plOf, seqOf, tupOf, lstOf, lsmOf, truth, cmpop, ltD, EV.i2, List.map_cons, List.map_nil, List.length_cons, List.length_nil, Nat.reduceAdd, Nat.reduceLT, Nat.reduceSub, if_true, if_false, Bool.false_eq_true, List.set_cons_zero, List.set_cons_succ, List.getElem?_cons_succ, List.getElem?_cons_zero, Option.join_some, List.cons_append, List.nil_append, List.replicate, decide_true, decide_false, Bool.not_true, Bool.not_false, reduceCtorEq, sub_int]) (by simp only [excs, exc, ev, evs, evo, evi, evt, asg, asgs, dOf_d, dOf_fl, tOf_some, Option.bind_some, Option.map_some, Option.bind_none, Option.map_none, bfun, EV.b1, EV.b2, setMany, plOf, seqOf, tupOf, lstOf, lsmOf, truth, cmpop, ltD, EV.i2, List.map_cons, List.map_nil, List.length_cons, List.length_nil, Nat.reduceAdd, Nat.reduceLT, Nat.reduceSub, if_true, if_false, Bool.false_eq_true, List.set_cons_zero, List.set_cons_succ, List.getElem?_cons_succ, List.getElem?_cons_zero, Option.join_some, List.cons_append, List.nil_append, List.replicate, decide_true, decide_false, Bool.not_true, Bool.not_false, reduceCtorEq]) (by omega) (by omega) (by omega)
        refine this.trans ?_
        have e : (((n : Int) - 1 - ((t % 2 : Nat) : Int) + 2 - 1) / 2).toNat = (n - t % 2) / 2 := by omega
        rw [e]
        congr 4
      have tzn : ∀ a b : EV.D, tz [a, b] = some (.d (.tup [a, b])) := fun a b => tz_ok (by rw [sizeLine_eq]; simp)
      have c2 := comp_map (tg := fun d ρ S' => asg (clJ pg J) S.length (neighbours_t2 x) d ρ S') (tst := fun _ S => some (true, S)) (elt := fun ρ S' => dOf (ev (clJ pg J) S.length (neighbours_e1 x) ρ S')) (ws := []) (ρ := wipeE [some (.int (n : Int)), some (nI t), none] [2]) (S0 := S) (S := S) (fun i : Nat => EV.D.int (((t % 2 + 2 * i : Nat) : Int))) (fun i : Nat => prD (t % 2 + 2 * i, t % 2 + 2 * i + 1)) rfl (List.range ((n - t % 2) / 2)) []
        (fun i _ => ⟨[some (.int (n : Int)), some (nI t), some (nI (t % 2 + 2 * i))], by simp [neighbours_t2, asg, wipeE], rfl, by
          simp only [neighbours_e1, excs, exc, ev, evs, evo, evi, evt, asg, asgs, dOf_d, dOf_fl, tOf_some, Option.bind_some, Option.map_some, Option.bind_none, Option.map_none, bfun, EV.b1, EV.b2, setMany, plOf, seqOf, tupOf, lstOf, lsmOf, truth, cmpop, ltD, EV.i2, List.map_cons, List.map_nil, List.length_cons, List.length_nil, Nat.reduceAdd, Nat.reduceLT, Nat.reduceSub, if_true, if_false, Bool.false_eq_true, List.set_cons_zero, List.set_cons_succ, List.getElem?_cons_succ, List.getElem?_cons_zero, Option.join_some, List.cons_append, List.nil_append, List.replicate, decide_true, decide_false, Bool.not_true, Bool.not_false, reduceCtorEq, add_int, tzn]
          rfl⟩) (by rw [sizeLine_eq]; simp; omega)
      have hv : (List.range ((n - t % 2) / 2)).map (fun i : Nat => prD (t % 2 + 2 * i, t % 2 + 2 * i + 1)) = (lv (t % 2) ((n - t % 2) / 2)).map prD := by rw [lv_map, List.map_map]; rfl
      rw [hv, List.nil_append] at c2
      simp only [clJ] at s3 c2
      simp only [neighbours_e4, excs, exc, ev, evs, evo, evi, evt, asg, asgs, dOf_d, dOf_fl, tOf_some, Option.bind_some, Option.map_some, Option.bind_none, Option.map_none, bfun, EV.b1, EV.b2, setMany, plOf, seqOf, tupOf, lstOf, lsmOf, truth, cmpop, ltD, EV.i2, List.map_cons, List.map_nil, List.length_cons, List.length_nil, Nat.reduceAdd, Nat.reduceLT, Nat.reduceSub, if_true, if_false, Bool.false_eq_true, List.set_cons_zero, List.set_cons_succ, List.getElem?_cons_succ, List.getElem?_cons_zero, Option.join_some, List.cons_append, List.nil_append, List.replicate, decide_true, decide_false, Bool.not_true, Bool.not_false, reduceCtorEq, s3, c2, tup_lst]⟩) (by rw [sizeLine_eq]; simp; omega)
  have hv : (List.range n).map (fun t => lvD (lv (t % 2) ((n - t % 2) / 2))) = (nbL n).map lvD := by unfold nbL; rw [List.map_map]; rfl
  rw [hv, List.nil_append] at c1
  simp only [clJ] at s6 c1
  refine run_d h0 (S' := S) (d := .tup ((nbL n).map lvD)) rfl ?_ (fin_val (unders_map fun L _ => fine_under _ (lvD_fine _)) (by simp))
  simp only [B_neighbours, excs, exc, ev, evs, evo, evi, evt, asg, asgs, dOf_d, dOf_fl, tOf_some, Option.bind_some, Option.map_some, Option.bind_none, Option.map_none, bfun, EV.b1, EV.b2, setMany, plOf, seqOf, tupOf, lstOf, lsmOf, truth, cmpop, ltD, EV.i2, List.map_cons, List.map_nil, List.length_cons, List.length_nil, Nat.reduceAdd, Nat.reduceLT, Nat.reduceSub, if_true, if_false, Bool.false_eq_true, List.set_cons_zero, List.set_cons_succ, List.getElem?_cons_succ, List.getElem?_cons_zero, Option.join_some, List.cons_append, List.nil_append, List.replicate, decide_true, decide_false, Bool.not_true, Bool.not_false, reduceCtorEq, s6, c1, tup_lst]
end
end EV
end
section
set_option maxRecDepth 100000
set_option autoImplicit false
namespace EV
open PySem L2
def _law_merging_e1 (x : Ix) : Ex := (.tup (.cons (.ix (.var 2) (.var 4)) (.cons (.ix (.var 2) (.bin .Add (.var 4) (.cst (.int 1)))) .nil)))
def _law_merging_t2 (x : Ix) : Tg := (.nm 4)
def _law_merging_s3 (x : Ix) : Src := (.rng (.cons (.cst (.int 1)) (.cons (.bin .Sub (.bf .len (.cons (.var 2) .nil)) (.cst (.int 1))) (.cons (.cst (.int 2)) .nil))))
/-- _law_merging -/
def B__law_merging (x : Ix) : Sms := (.cons (.iff (.or (.cmp .Eq (.var 0) (.lst .nil)) (.cmp .Eq (.var 1) (.lst .nil)))
  (.cons (.ret (.lst .nil))
  .nil)
  .nil)
  (.cons (.iff (.and (.cmp .Eq (.bf .len (.cons (.var 0) .nil)) (.cst (.int 1))) (.cmp .Eq (.bf .len (.cons (.var 1) .nil)) (.cst (.int 1))))
  (.cons (.ret (.lst (.cons (.tup (.cons (.ix (.var 0) (.cst (.int 0))) (.cons (.ix (.var 1) (.cst (.int 0))) .nil))) .nil)))
  .nil)
  .nil)
  (.cons (.set (.nm 2) (.bin .Add (.var 0) (.var 1)))
  (.cons (.set (.nm 3) (.comp (_law_merging_e1 x) [4] (_law_merging_t2 x) (_law_merging_s3 x) .nil))
  (.cons (.ret (.bin .Add (.bin .Add (.call (x.f F._law_merging) (.cons (.sl (.var 0) (.so (.cst (.int 0))) .no .by2) (.cons (.sl (.var 1) (.so (.cst (.int 0))) .no .by2) .nil))) (.call (x.f F._law_merging) (.cons (.sl (.var 0) (.so (.cst (.int 1))) .no .by2) (.cons (.sl (.var 1) (.so (.cst (.int 1))) .no .by2) .nil)))) (.var 3)))
  .nil)))))
abbrev Df__law_merging (x : Ix) : Df := ⟨5, 2, true, B__law_merging x⟩
def _law_in_levels_e1 (x : Ix) : Ex := (.bf .tuple (.cons (.bf .sorted (.cons (.var 6) .nil)) .nil))
def _law_in_levels_t2 (x : Ix) : Tg := (.nm 6)
def _law_in_levels_t3 (x : Ix) : Tg := (.tup (.cons (.nm 3) (.cons (.nm 4) .nil)))
def _law_in_levels_b4 (x : Ix) : Sms := (.cons (.set (.nm 5) (.bf .max (.cons (.bm .get (.var 2) (.cons (.var 3) (.cons (.cst (.int 0)) .nil))) (.cons (.bm .get (.var 2) (.cons (.var 4) (.cons (.cst (.int 0)) .nil))) .nil))))
  (.cons (.iff (.cmp .Eq (.bf .len (.cons (.var 1) .nil)) (.var 5))
  (.cons (.ex (.bm .append (.var 1) (.cons (.new (.lst .nil)) .nil)))
  .nil)
  .nil)
  (.cons (.ex (.bm .append (.ix (.var 1) (.var 5)) (.cons (.tup (.cons (.var 3) (.cons (.var 4) .nil))) .nil)))
  (.cons (.set (.ix (.var 2) (.var 3)) (.bin .Add (.var 5) (.cst (.int 1))))
  (.cons (.set (.ix (.var 2) (.var 4)) (.bin .Add (.var 5) (.cst (.int 1))))
  .nil)))))
/-- _law_in_levels -/
def B__law_in_levels (x : Ix) : Sms := (.cons (.par [1, 2] (.cons (.new (.lst .nil)) (.cons (.new .emK) .nil)))
  (.cons (.for (_law_in_levels_t3 x) (.ex (.var 0))
  (_law_in_levels_b4 x))
  (.cons (.ret (.comp (_law_in_levels_e1 x) [6] (_law_in_levels_t2 x) (.ex (.var 1)) .nil))
  .nil)))
abbrev Df__law_in_levels (x : Ix) : Df := ⟨7, 1, true, B__law_in_levels x⟩
end EV
end
section
set_option maxRecDepth 100000
set_option autoImplicit false
set_option maxHeartbeats 8000000
/-! the laws' own merging, walked -/
namespace EV
open PySem L2 Nw
theorem zp_get : ∀ (l m : List Nat) (i : Nat), (zp l m)[i]? = (match l[i]?, m[i]? with | some a, some b => some (a, b) | _, _ => none)
  | [], m, i => by simp [zp]
  | a :: l, [], i => by
    simp only [zp, List.getElem?_nil]
    cases (a :: l)[i]? <;> rfl
  | a :: l, b :: m, 0 => rfl
  | a :: l, b :: m, i + 1 => by simpa [zp] using zp_get l m i
/-- the pairs of neighbours behind, as the laws make them -/
theorem behind_eq (C : List Nat) : (List.range ((C.length - 1) / 2)).map (fun i => (C[2 * i + 1]?.getD 0, C[2 * i + 2]?.getD 0)) = zp (ods C) (Nw.evs (C.drop 2)) := by
  refine List.ext_getElem? fun i => ?_
  rw [zp_get, Nw.ods_get, Nw.evs_get, List.getElem?_drop, List.getElem?_map, show 2 + 2 * i = 2 * i + 2 by omega]
  by_cases h : i < (C.length - 1) / 2
  · have g1 : C[2 * i + 1]? = some C[2 * i + 1] := List.getElem?_eq_getElem (by omega)
    have g2 : C[2 * i + 2]? = some C[2 * i + 2] := List.getElem?_eq_getElem (by omega)
    rw [List.getElem?_range h, g1, g2]
    simp [g1, g2]
  · have g2 : C[2 * i + 2]? = none := List.getElem?_eq_none (by omega)
    rw [List.getElem?_eq_none (by simp; omega), g2]
    cases C[2 * i + 1]? <;> rfl
section
variable {pg : Pg} {x : Ix}
theorem behind_run (J b : Nat) (S : Sto) (one other : List Nat) (hl : 2 ≤ one.length + other.length) (hm : one.length + other.length ≤ 2000) :
    (∀ (r1 r2 : Option EV.D), evi (clJ pg J) b (_law_merging_s3 x) [some (.lst (one.map nI)), some (.lst (other.map nI)), some (.lst ((one ++ other).map nI)), r1, r2] S = some (((List.range (((one ++ other).length - 1) / 2)).map fun i : Nat => EV.D.int (((2 * i + 1 : Nat) : Int)), []), S)) ∧
    compT (clJ pg J) b (_law_merging_t2 x) (_law_merging_e1 x) [] S (wipeE [some (.lst (one.map nI)), some (.lst (other.map nI)), some (.lst ((one ++ other).map nI)), none, none] [4]) ((List.range (((one ++ other).length - 1) / 2)).map fun i : Nat => EV.D.int (((2 * i + 1 : Nat) : Int))) [] S = some ((zp (ods (one ++ other)) (Nw.evs ((one ++ other).drop 2))).map prD, S) := by
  have hC : (one ++ other).length = one.length + other.length := List.length_append
  generalize hCC : one ++ other = C at *
  refine ⟨fun r1 r2 => ?_, ?_⟩
  · have ls : ∀ S : Sto, binop .Sub S (.int (C.length : Int)) (.int 1) = some (.d (.int ((C.length : Int) - 1))) := fun S => rfl
    have := rng3 (c := clJ pg J) (b := b) (e := .cst (.int 1)) (f := .bin .Sub (.bf .len (.cons (.var 2) .nil)) (.cst (.int 1))) (g := .cst (.int 2)) (ρ := [some (.lst (one.map nI)), some (.lst (other.map nI)), some (.lst (C.map nI)), r1, r2]) (S := S) (S1 := S) (S2 := S) (S' := S) (lo := 1) (hi := (C.length : Int) - 1) (st := 2) (by simp only [excs, exc, ev, evs, evo, evi, evt, asg, asgs, dOf_d, dOf_fl, tOf_some, Option.bind_some, Option.map_some, Option.bind_none, Option.map_none, bfun, EV.b1, EV.b2, setMany, plOf, seqOf, tupOf, lstOf, lsmOf, truth, cmpop, ltD, EV.i2, List.map_cons, List.map_nil, List.length_cons, List.length_nil, Nat.reduceAdd, Nat.reduceLT, Nat.reduceSub, if_true, if_false, Bool.false_eq_true, List.set_cons_zero, List.set_cons_succ, List.getElem?_cons_succ, List.getElem?_cons_zero, Option.join_some, List.cons_append, List.nil_append, List.replicate, decide_true, decide_false, Bool.not_true, Bool.not_false, reduceCtorEq]) (by simp only [excs, exc, ev, evs, evo, evi, evt, asg, asgs, dOf_d, dOf_fl, tOf_some, Option.bind_some, Option.map_some, Option.bind_none, Option.map_none, bfun, EV.b1, EV.b2, setMany, plOf, seqOf, tupOf, lstOf, lsmOf, truth, cmpop, ltD, EV.i2, List.map_cons, List.map_nil, List.length_cons, List.length_nil, Nat.reduceAdd, Nat.reduceLT, Nat.reduceSub, if_true, if_false, Bool.false_eq_true, List.set_cons_zero, List.set_cons_succ, List.getElem?_cons_succ, List.getElem?_cons_zero, Option.join_some, List.cons_append, List.nil_append, List.replicate, decide_true, decide_false, Bool.not_true, Bool.not_false, reduceCtorEq, len_lst, List.length_map, ls]) (by simp only [excs, exc, ev, evs, evo, evi, evt, asg, asgs, dOf_d, dOf_fl, tOf_some, Option.bind_some, Option.map_some, Option.bind_none, Option.map_none, bfun, EV.b1, EV.b2, setMany, plOf, seqOf, tupOf, lstOf, lsmOf, truth, cmpop, ltD, EV.i2, List.map_cons, List.map_nil, List.length_cons, List.length_nil, Nat.reduceAdd, Nat.reduceLT, Nat.reduceSub, if_true, if_false, Bool.false_eq_true, List.set_cons_zero, List.set_cons_succ, List.getElem?_cons_succ, List.getElem?_cons_zero, Option.join_some, List.cons_append, List.nil_append, List.replicate, decide_true, decide_false, Bool.not_true, Bool.not_false, reduceCtorEq]) (by omega) (by omega) (by omega)
    refine this.trans ?_
    have e : (((C.length : Int) - 1 - 1 + 2 - 1) / 2).toNat = (C.length - 1) / 2 := by omega
    rw [e]
    congr 4
    funext i
    congr 1
    omega
  · have tzn : ∀ a b : EV.D, tz [a, b] = some (.d (.tup [a, b])) := fun a b => tz_ok (by rw [sizeLine_eq]; simp)
    have := comp_map (tg := fun d ρ S' => asg (clJ pg J) b (_law_merging_t2 x) d ρ S') (tst := fun _ S => some (true, S)) (elt := fun ρ S' => dOf (ev (clJ pg J) b (_law_merging_e1 x) ρ S')) (ws := []) (ρ := wipeE [some (.lst (one.map nI)), some (.lst (other.map nI)), some (.lst (C.map nI)), none, none] [4]) (S0 := S) (S := S) (fun i : Nat => EV.D.int (((2 * i + 1 : Nat) : Int))) (fun i : Nat => prD (C[2 * i + 1]?.getD 0, C[2 * i + 2]?.getD 0)) rfl (List.range ((C.length - 1) / 2)) []
      (fun i hi => ⟨[some (.lst (one.map nI)), some (.lst (other.map nI)), some (.lst (C.map nI)), none, some (.int (((2 * i + 1 : Nat) : Int)))], by simp [_law_merging_t2, asg, wipeE], rfl, by
        have hi : i < (C.length - 1) / 2 := List.mem_range.1 hi
        have g1 : C[2 * i + 1]? = some C[2 * i + 1] := List.getElem?_eq_getElem (by omega)
        have g2 : C[2 * i + 2]? = some C[2 * i + 2] := List.getElem?_eq_getElem (by omega)
        have i1 : ∀ S : Sto, itemAt S (.lst (C.map nI)) (.int ((2 * i + 1 : Nat) : Int)) = some (nI C[2 * i + 1]) := fun S => ix_lst (by rw [List.getElem?_map, g1]; rfl)
        have i2 : ∀ S : Sto, itemAt S (.lst (C.map nI)) (.int ((2 * i + 2 : Nat) : Int)) = some (nI C[2 * i + 2]) := fun S => ix_lst (by rw [List.getElem?_map, g2]; rfl)
        have ad : ∀ S : Sto, binop .Add S (.int ((2 * i + 1 : Nat) : Int)) (.int 1) = some (.d (.int ((2 * i + 2 : Nat) : Int))) := fun S => rfl
        rw [g1, g2]
        simp only [_law_merging_e1, excs, exc, ev, evs, evo, evi, evt, asg, asgs, dOf_d, dOf_fl, tOf_some, Option.bind_some, Option.map_some, Option.bind_none, Option.map_none, bfun, EV.b1, EV.b2, setMany, plOf, seqOf, tupOf, lstOf, lsmOf, truth, cmpop, ltD, EV.i2, List.map_cons, List.map_nil, List.length_cons, List.length_nil, Nat.reduceAdd, Nat.reduceLT, Nat.reduceSub, if_true, if_false, Bool.false_eq_true, List.set_cons_zero, List.set_cons_succ, List.getElem?_cons_succ, List.getElem?_cons_zero, Option.join_some, List.cons_append, List.nil_append, List.replicate, decide_true, decide_false, Bool.not_true, Bool.not_false, reduceCtorEq, i1, i2, ad, tzn]
        rfl⟩) (by rw [sizeLine_eq]; simp; omega)
    rw [List.nil_append] at this
    refine this.trans ?_
    rw [← behind_eq C, List.map_map]
    rfl
theorem lone_one {one other : List Nat} {k : Nat} (h1 : one.length = 1) (h2 : other.length = 1) (J : Nat) (S : Sto) : excs (clJ pg J) S.length (B__law_merging x) ([EV.D.lst (one.map nI), .lst (other.map nI)].map some ++ List.replicate (5 - 2) none) S = some (.rt (.lst ((mrg (k + 1) one other).map prD)) S) := by
  obtain ⟨a, rfl⟩ := List.length_eq_one_iff.1 h1
  obtain ⟨b, rfl⟩ := List.length_eq_one_iff.1 h2
  have lzn : ∀ ds : List EV.D, ds.length ≤ 1 → lz ds = some (.fl ds) := fun ds h => lz_ok (by rw [sizeLine_eq]; omega)
  have lz1 : ∀ d : EV.D, lz [d] = some (.fl [d]) := fun d => lzn _ (by simp)
  have tzn : ∀ a b : EV.D, tz [a, b] = some (.d (.tup [a, b])) := fun a b => tz_ok (by rw [sizeLine_eq]; simp)
  have i0 : ∀ (S : Sto) (d : EV.D), itemAt S (.lst [d]) (.int 0) = some d := fun S d => rfl
  have l1 : ∀ (S : Sto) (d : EV.D), bLen S (.lst [d]) = some (.d (.int 1)) := fun S d => rfl
  have e1 : ∀ S : Sto, eqD S (.int 1) (.int 1) = some true := fun S => by rw [eqI]; rfl
  have q1 : ∀ (S : Sto) (n : Nat), eqD S (.lst [nI n]) (.lst []) = some false := fun S n => (eq_nilL (xs := [nI n]) (n := 0) (by omega) rfl).trans (by simp)
  have hm : mrg (k + 1) [a] [b] = [(a, b)] := by simp [mrg, zp]
  rw [hm]
  simp only [B__law_merging, excs, exc, ev, evs, evo, evi, evt, asg, asgs, dOf_d, dOf_fl, tOf_some, Option.bind_some, Option.map_some, Option.bind_none, Option.map_none, bfun, EV.b1, EV.b2, setMany, plOf, seqOf, tupOf, lstOf, lsmOf, truth, cmpop, ltD, EV.i2, List.map_cons, List.map_nil, List.length_cons, List.length_nil, Nat.reduceAdd, Nat.reduceLT, Nat.reduceSub, if_true, if_false, Bool.false_eq_true, List.set_cons_zero, List.set_cons_succ, List.getElem?_cons_succ, List.getElem?_cons_zero, Option.join_some, List.cons_append, List.nil_append, List.replicate, decide_true, decide_false, Bool.not_true, Bool.not_false, reduceCtorEq, q1, lzn, lz1, Nat.zero_le, tzn, l1, e1, i0]
theorem lmerging_run (h0 : pg.defs[x.f F._law_merging]? = some (Df__law_merging x)) : ∀ (k : Nat), k ≤ 1000 → ∀ (one other : List Nat), one.length ≤ 2 ^ k → other.length ≤ 2 ^ k → one.length + other.length ≤ 2000 → ∀ {J : Nat}, k + 1 ≤ J → ∀ (B : Nat) (S : Sto), run pg J (x.f F._law_merging) [.lst (one.map nI), .lst (other.map nI)] B S = some (.lst ((mrg (k + 1) one other).map prD), S) := by
  intro k
  induction k with
  | zero =>
    intro _ one other h1 h2 h3 J hJ B S
    obtain ⟨J, rfl⟩ : ∃ j, J = j + 1 := ⟨J - 1, by omega⟩
    refine run_d h0 (S' := S) (d := .lst ((mrg 1 one other).map prD)) rfl ?_ (fin_val (unders_map fun p _ => rfl) (by simp))
    have q1 : ∀ S, eqD S (.lst (one.map nI)) (.lst []) = some (decide (one = [])) := fun S => by rw [eq_nilL (n := 0) (by omega) (fines_nI _ _)]; simp
    have q2 : ∀ S, eqD S (.lst (other.map nI)) (.lst []) = some (decide (other = [])) := fun S => by rw [eq_nilL (n := 0) (by omega) (fines_nI _ _)]; simp
    have lzn : ∀ ds : List EV.D, ds.length ≤ 1 → lz ds = some (.fl ds) := fun ds h => lz_ok (by rw [sizeLine_eq]; omega)
    have tzn : ∀ a b : EV.D, tz [a, b] = some (.d (.tup [a, b])) := fun a b => tz_ok (by rw [sizeLine_eq]; simp)
    by_cases n1 : one = []
    · have d1 := decide_eq_true n1
      have hm : mrg 1 one other = [] := by rw [mrg, if_pos (.inl n1)]
      rw [hm]
      simp only [B__law_merging, excs, exc, ev, evs, evo, evi, evt, asg, asgs, dOf_d, dOf_fl, tOf_some, Option.bind_some, Option.map_some, Option.bind_none, Option.map_none, bfun, EV.b1, EV.b2, setMany, plOf, seqOf, tupOf, lstOf, lsmOf, truth, cmpop, ltD, EV.i2, List.map_cons, List.map_nil, List.length_cons, List.length_nil, Nat.reduceAdd, Nat.reduceLT, Nat.reduceSub, if_true, if_false, Bool.false_eq_true, List.set_cons_zero, List.set_cons_succ, List.getElem?_cons_succ, List.getElem?_cons_zero, Option.join_some, List.cons_append, List.nil_append, List.replicate, decide_true, decide_false, Bool.not_true, Bool.not_false, reduceCtorEq, q1, d1, lzn, Nat.zero_le]
    by_cases n2 : other = []
    · have d1 := decide_eq_false n1
      have d2 := decide_eq_true n2
      have hm : mrg 1 one other = [] := by rw [mrg, if_pos (.inr n2)]
      rw [hm]
      simp only [B__law_merging, excs, exc, ev, evs, evo, evi, evt, asg, asgs, dOf_d, dOf_fl, tOf_some, Option.bind_some, Option.map_some, Option.bind_none, Option.map_none, bfun, EV.b1, EV.b2, setMany, plOf, seqOf, tupOf, lstOf, lsmOf, truth, cmpop, ltD, EV.i2, List.map_cons, List.map_nil, List.length_cons, List.length_nil, Nat.reduceAdd, Nat.reduceLT, Nat.reduceSub, if_true, if_false, Bool.false_eq_true, List.set_cons_zero, List.set_cons_succ, List.getElem?_cons_succ, List.getElem?_cons_zero, Option.join_some, List.cons_append, List.nil_append, List.replicate, decide_true, decide_false, Bool.not_true, Bool.not_false, reduceCtorEq, q1, q2, d1, d2, lzn, Nat.zero_le]
    have g1 : one.length = 1 := by
      have : one.length ≠ 0 := fun h => n1 (List.length_eq_zero_iff.1 h)
      omega
    have g2 : other.length = 1 := by
      have : other.length ≠ 0 := fun h => n2 (List.length_eq_zero_iff.1 h)
      omega
    exact lone_one g1 g2 J S
  | succ k ih =>
    intro hk one other h1 h2 h3 J hJ B S
    obtain ⟨J, rfl⟩ : ∃ j, J = j + 1 := ⟨J - 1, by omega⟩
    refine run_d h0 (S' := S) (d := .lst ((mrg (k + 2) one other).map prD)) rfl ?_ (fin_val (unders_map fun p _ => rfl) (by simp))
    have q1 : ∀ S, eqD S (.lst (one.map nI)) (.lst []) = some (decide (one = [])) := fun S => by rw [eq_nilL (n := 0) (by omega) (fines_nI _ _)]; simp
    have q2 : ∀ S, eqD S (.lst (other.map nI)) (.lst []) = some (decide (other = [])) := fun S => by rw [eq_nilL (n := 0) (by omega) (fines_nI _ _)]; simp
    have lzn : ∀ ds : List EV.D, ds.length ≤ 1 → lz ds = some (.fl ds) := fun ds h => lz_ok (by rw [sizeLine_eq]; omega)
    have tzn : ∀ a b : EV.D, tz [a, b] = some (.d (.tup [a, b])) := fun a b => tz_ok (by rw [sizeLine_eq]; simp)
    by_cases n1 : one = []
    · have d1 := decide_eq_true n1
      have hm : mrg (k + 2) one other = [] := by rw [mrg, if_pos (.inl n1)]
      rw [hm]
      simp only [B__law_merging, excs, exc, ev, evs, evo, evi, evt, asg, asgs, dOf_d, dOf_fl, tOf_some, Option.bind_some, Option.map_some, Option.bind_none, Option.map_none, bfun, EV.b1, EV.b2, setMany, plOf, seqOf, tupOf, lstOf, lsmOf, truth, cmpop, ltD, EV.i2, List.map_cons, List.map_nil, List.length_cons, List.length_nil, Nat.reduceAdd, Nat.reduceLT, Nat.reduceSub, if_true, if_false, Bool.false_eq_true, List.set_cons_zero, List.set_cons_succ, List.getElem?_cons_succ, List.getElem?_cons_zero, Option.join_some, List.cons_append, List.nil_append, List.replicate, decide_true, decide_false, Bool.not_true, Bool.not_false, reduceCtorEq, q1, d1, lzn, Nat.zero_le]
    by_cases n2 : other = []
    · have d1 := decide_eq_false n1
      have d2 := decide_eq_true n2
      have hm : mrg (k + 2) one other = [] := by rw [mrg, if_pos (.inr n2)]
      rw [hm]
      simp only [B__law_merging, excs, exc, ev, evs, evo, evi, evt, asg, asgs, dOf_d, dOf_fl, tOf_some, Option.bind_some, Option.map_some, Option.bind_none, Option.map_none, bfun, EV.b1, EV.b2, setMany, plOf, seqOf, tupOf, lstOf, lsmOf, truth, cmpop, ltD, EV.i2, List.map_cons, List.map_nil, List.length_cons, List.length_nil, Nat.reduceAdd, Nat.reduceLT, Nat.reduceSub, if_true, if_false, Bool.false_eq_true, List.set_cons_zero, List.set_cons_succ, List.getElem?_cons_succ, List.getElem?_cons_zero, Option.join_some, List.cons_append, List.nil_append, List.replicate, decide_true, decide_false, Bool.not_true, Bool.not_false, reduceCtorEq, q1, q2, d1, d2, lzn, Nat.zero_le]
    have e1 : ∀ (S : Sto) (l : List Nat), eqD S (.int ((l.map nI).length : Int)) (.int 1) = some (decide (l.length = 1)) := fun S l => by
      rw [show (1 : Int) = ((1 : Nat) : Int) from rfl, eqN, List.length_map]
    by_cases hone : one.length = 1 ∧ other.length = 1
    · exact lone_one hone.1 hone.2 J S
    · have pw : (2 : Nat) ^ (k + 1) = 2 * 2 ^ k := by rw [Nat.pow_succ]; omega
      have r1 := fun B S => ih (by omega) (Nw.evs one) (Nw.evs other) (by rw [Nw.evs_len]; omega) (by rw [Nw.evs_len]; omega) (by rw [Nw.evs_len, Nw.evs_len]; omega) (J := J) (by omega) B S
      have r2 := fun B S => ih (by omega) (ods one) (ods other) (by rw [Nw.ods_len]; omega) (by rw [Nw.ods_len]; omega) (by rw [Nw.ods_len, Nw.ods_len]; omega) (J := J) (by omega) B S
      have s0 : ∀ (S : Sto) (l : List Nat), slice S (.lst (l.map nI)) none none .by2 = some (.fl ((Nw.evs l).map nI)) := fun S l => by rw [sl_lst2, cutD_all, every2_map, every2_evs]
      have s1 : ∀ (S : Sto) (l : List Nat), slice S (.lst (l.map nI)) (some 1) none .by2 = some (.fl ((ods l).map nI)) := fun S l => by
        rw [show (1 : Int) = ((1 : Nat) : Int) from rfl, sl_lst2, cutD_from, ← List.map_drop, every2_map, every2_ods]
      have s2 : ∀ (S : Sto) (l : List Nat), slice S (.lst (l.map nI)) (some 2) none .by2 = some (.fl ((Nw.evs (l.drop 2)).map nI)) := fun S l => by
        rw [show (2 : Int) = ((2 : Nat) : Int) from rfl, sl_lst2, cutD_from, ← List.map_drop, every2_map, every2_evs]
      have m1 := mrg_len (k + 1) (Nw.evs one) (Nw.evs other)
      have m2 := mrg_len (k + 1) (ods one) (ods other)
      rw [Nw.evs_len, Nw.evs_len] at m1
      rw [Nw.ods_len, Nw.ods_len] at m2
      have m1' : (mrg (k + 1) (Nw.evs one) (Nw.evs other)).length ≤ 1001 * 2000 := Nat.le_trans m1 (Nat.mul_le_mul (by omega) (by omega))
      have m2' : (mrg (k + 1) (ods one) (ods other)).length ≤ 1001 * 2000 := Nat.le_trans m2 (Nat.mul_le_mul (by omega) (by omega))
      have m3 := zp_len (ods (one ++ other)) (Nw.evs ((one ++ other).drop 2))
      rw [Nw.ods_len, List.length_append] at m3
      have s0' : ∀ (S : Sto) (l : List Nat), slice S (.lst (l.map nI)) (some 0) none .by2 = some (.fl ((Nw.evs l).map nI)) := fun S l => by
        rw [show (0 : Int) = ((0 : Nat) : Int) from rfl, sl_lst2, cutD_from, List.drop_zero, every2_map, every2_evs]
      have hlen2 : 2 ≤ one.length + other.length := by
        have : one.length ≠ 0 := fun h => n1 (List.length_eq_zero_iff.1 h)
        have : other.length ≠ 0 := fun h => n2 (List.length_eq_zero_iff.1 h)
        omega
      have cm1 := fun (S' : Sto) => (behind_run (pg := pg) (x := x) J S.length S' one other hlen2 h3).1
      have cm2 := fun (S' : Sto) => (behind_run (pg := pg) (x := x) J S.length S' one other hlen2 h3).2
      simp only [clJ, compT] at cm1 cm2
      have a1 : ∀ S : Sto, binop .Add S (.lst ((mrg (k + 1) (Nw.evs one) (Nw.evs other)).map prD)) (.lst ((mrg (k + 1) (ods one) (ods other)).map prD)) = some (.fl ((mrg (k + 1) (Nw.evs one) (Nw.evs other) ++ mrg (k + 1) (ods one) (ods other)).map prD)) := fun S => by
        rw [add_lst (by rw [sizeLine_eq, List.length_map, List.length_map]; omega), List.map_append]
      have a2 : ∀ S : Sto, binop .Add S (.lst (one.map nI)) (.lst (other.map nI)) = some (.fl ((one ++ other).map nI)) := fun S => by
        rw [add_lst (by rw [sizeLine_eq, List.length_map, List.length_map]; omega), List.map_append]
      have a3 : ∀ S : Sto, binop .Add S (.lst ((mrg (k + 1) (Nw.evs one) (Nw.evs other) ++ mrg (k + 1) (ods one) (ods other)).map prD)) (.lst ((zp (ods (one ++ other)) (Nw.evs ((one ++ other).drop 2))).map prD)) = some (.fl ((mrg (k + 1) (Nw.evs one) (Nw.evs other) ++ mrg (k + 1) (ods one) (ods other) ++ zp (ods (one ++ other)) (Nw.evs ((one ++ other).drop 2))).map prD)) := fun S => by
        rw [add_lst (by rw [sizeLine_eq, List.length_map, List.length_map, List.length_append]; omega)]; simp only [List.map_append]
      have hm : mrg (k + 2) one other = mrg (k + 1) (Nw.evs one) (Nw.evs other) ++ mrg (k + 1) (ods one) (ods other) ++ zp (ods (one ++ other)) (Nw.evs ((one ++ other).drop 2)) := by
        rw [mrg, if_neg (by rintro (h | h) <;> contradiction), if_neg hone]
      rw [hm]
      generalize hA : mrg (k + 1) (Nw.evs one) (Nw.evs other) = A at *
      generalize hB : mrg (k + 1) (ods one) (ods other) = Bm at *
      generalize hC : one ++ other = C at *
      have lz4 : lz ((zp (ods C) (Nw.evs (C.drop 2))).map prD) = some (.fl ((zp (ods C) (Nw.evs (C.drop 2))).map prD)) := lz_ok (by rw [sizeLine_eq, List.length_map]; omega)
      have zz : ∀ S : Sto, zipF [.lst ((ods C).map nI), .lst ((Nw.evs (C.drop 2)).map nI)] S = some (((zp (ods C) (Nw.evs (C.drop 2))).map prD, []), S) := fun S => by rw [zip_lst, zip_zp]
      have d1 := decide_eq_false n1
      have d2 := decide_eq_false n2
      by_cases h11 : one.length = 1
      · have h12 := decide_eq_false (fun h : other.length = 1 => hone ⟨h11, h⟩)
        have h11 := decide_eq_true h11
        simp only [B__law_merging, excs, exc, ev, evs, evo, evi, evt, asg, asgs, dOf_d, dOf_fl, tOf_some, Option.bind_some, Option.map_some, Option.bind_none, Option.map_none, bfun, EV.b1, EV.b2, setMany, plOf, seqOf, tupOf, lstOf, lsmOf, truth, cmpop, ltD, EV.i2, List.map_cons, List.map_nil, List.length_cons, List.length_nil, Nat.reduceAdd, Nat.reduceLT, Nat.reduceSub, if_true, if_false, Bool.false_eq_true, List.set_cons_zero, List.set_cons_succ, List.getElem?_cons_succ, List.getElem?_cons_zero, Option.join_some, List.cons_append, List.nil_append, List.replicate, decide_true, decide_false, Bool.not_true, Bool.not_false, reduceCtorEq, q1, q2, d1, d2, lzn, Nat.zero_le, len_lst, e1, h11, h12, cm1, cm2, s0', s1, s2, r1, r2, a1, a2, a3, zz, lz4]
      · have h11 := decide_eq_false h11
        simp only [B__law_merging, excs, exc, ev, evs, evo, evi, evt, asg, asgs, dOf_d, dOf_fl, tOf_some, Option.bind_some, Option.map_some, Option.bind_none, Option.map_none, bfun, EV.b1, EV.b2, setMany, plOf, seqOf, tupOf, lstOf, lsmOf, truth, cmpop, ltD, EV.i2, List.map_cons, List.map_nil, List.length_cons, List.length_nil, Nat.reduceAdd, Nat.reduceLT, Nat.reduceSub, if_true, if_false, Bool.false_eq_true, List.set_cons_zero, List.set_cons_succ, List.getElem?_cons_succ, List.getElem?_cons_zero, Option.join_some, List.cons_append, List.nil_append, List.replicate, decide_true, decide_false, Bool.not_true, Bool.not_false, reduceCtorEq, q1, q2, d1, d2, lzn, Nat.zero_le, len_lst, e1, h11, cm1, cm2, s0', s1, s2, r1, r2, a1, a2, a3, zz, lz4]
end
end EV
end
section
set_option maxRecDepth 100000
set_option autoImplicit false
set_option maxHeartbeats 8000000
/-! the laws' own levels, walked -/
namespace EV
open PySem L2 Nw
section
variable {S : Sto} {kvs : List (Key × EV.D)} {c0 c1 : Cell} {Ls : List (List Pr)} {L : List Pr} {n i : Nat} {q : Pr}
theorem lvt_item (h : n < Ls.length) : itemAt (lvSto S (.lst (locs (S.length + 2) Ls.length)) c1 Ls) (.loc S.length) (.int (n : Int)) = some (.loc (S.length + 2 + n)) :=
  itemAt_loc lvSto_0 (locs_get _ _ _ h)
theorem lvt_kind (h : Ls[n]? = some L) : mkind (lvSto S c0 c1 Ls) (.loc (S.length + 2 + n)) = some true := by
  unfold mkind
  simp only [lvSto_lv h]
theorem lvt_app (h : Ls[n]? = some L) (hl : L.length < sizeLine) {d : EV.D} (hd : d = prD q) : bmeth S.length .append true (lvSto S c0 c1 Ls) (.loc (S.length + 2 + n)) [d] = some (.d .non, lvSto S c0 c1 (Ls.set n (L ++ [q]))) := by
  subst hd
  unfold bmeth
  simp only [lvSto_lv h, if_true, lmeth, mApp]
  rw [if_pos ⟨okIn_le (by omega), by simpa using hl⟩, ← lvSto_setL]
  simp
theorem lvt_put (hl : kvs.length < sizeLine) {d : EV.D} : setIx S.length (lvSto S c0 (.dK kvs) Ls) (.loc (S.length + 1)) (.int (i : Int)) d = some (lvSto S c0 (.dK (putG kvs (.inl (i : Int)) d)) Ls) := by
  unfold setIx
  simp only [okIn_le (Nat.le_succ S.length), if_true, lvSto_1, EV.D.key, hl, lvSto_set1]
theorem lvt_get {d : EV.D} : bmeth S.length .get false (lvSto S c0 (.dK kvs) Ls) (.loc (S.length + 1)) [.int (i : Int), d] = some (.d ((valG kvs (.inl (i : Int))).getD d), lvSto S c0 (.dK kvs) Ls) := by
  unfold bmeth
  simp only [lvSto_1, if_true, dmeth, dget, EV.D.key, Option.map_some]
theorem lvt_kindD : mkind (lvSto S c0 (.dK kvs) Ls) (.loc (S.length + 1)) = some false := by
  unfold mkind
  simp only [lvSto_1]
theorem lvt_kindL {ds : List EV.D} : mkind (lvSto S (.lst ds) c1 Ls) (.loc S.length) = some true := by
  unfold mkind
  simp only [lvSto_0]
theorem lvt_lenL : bLen (lvSto S (.lst (locs (S.length + 2) Ls.length)) c1 Ls) (.loc S.length) = some (.d (.int (Ls.length : Int))) := by
  simp only [bLen, seqOf, tupOf, lstOf, lvSto_0, locs_len]
theorem lvt_more (hl : Ls.length < sizeLine) : bmeth S.length .append true (lvSto S (.lst (locs (S.length + 2) Ls.length)) c1 Ls ++ [.lst []]) (.loc S.length) [.loc (lvSto S (.lst (locs (S.length + 2) Ls.length)) c1 Ls).length] = some (.d .non, lvSto S (.lst (locs (S.length + 2) (Ls ++ [[]]).length)) c1 (Ls ++ [[]])) := by
  rw [lvSto_new, lvSto_len]
  unfold bmeth
  simp only [lvSto_0, if_true, lmeth, mApp]
  rw [if_pos ⟨okIn_le (by omega), by rw [locs_len]; exact hl⟩, lvSto_set0, List.length_append, List.length_singleton, locs_succ]
theorem lvt_kindN {ds : List EV.D} : mkind (lvSto S (.lst ds) c1 Ls ++ [.lst []]) (.loc S.length) = some true := by
  rw [lvSto_new]
  exact lvt_kindL
end
section
variable {pg : Pg} {x : Ix}
theorem llevels_run (h0 : pg.defs[x.f F._law_in_levels]? = some (Df__law_in_levels x)) {J : Nat} (hJ : 1 ≤ J) (ps : List Pr) (hps : ps.length ≤ 1000000) (v : EV.D) (hv : v = .lst (ps.map prD) ∨ v = .tup (ps.map prD)) (B : Nat) (S : Sto) :
    run pg J (x.f F._law_in_levels) [v] B S = some (.lst ((lvs ps).levels.map fun L => lvD (soP L)), S) := by
  obtain ⟨J, rfl⟩ : ∃ j, J = j + 1 := ⟨J - 1, by omega⟩
  have c1 := for_inv (tg := fun d ρ S' => asg (clJ pg J) S.length (_law_in_levels_t3 x) d ρ S') (body := fun ρ S' => excs (clJ pg J) S.length (_law_in_levels_b4 x) ρ S') (ws := []) (S0 := lvSto S (.lst []) (.dK []) []) prD
    (fun (d : List Pr) ρ S' => ∃ kvs a b e, LvI d.length (lvs d) kvs ∧ S' = lvSto S (.lst (locs (S.length + 2) (lvs d).levels.length)) (.dK kvs) (lvs d).levels ∧ ρ = [some v, some (.loc S.length), some (.loc (S.length + 1)), a, b, e, none]) (fun _ _ _ _ => rfl) ps []
    [some v, some (.loc S.length), some (.loc (S.length + 1)), none, none, none, none] (lvSto S (.lst []) (.dK []) [])
    ⟨[], none, none, none, ⟨good_zero, fun i => rfl, by simp, Nat.le_refl _, fun L hL => by cases hL⟩, rfl, rfl⟩ (fun d q r ρ S' hd hI => by
      obtain ⟨kvs, a, b, e, I, rfl, rfl⟩ := hI
      have hdl : d.length + 1 ≤ ps.length := by rw [List.nil_append] at hd; rw [hd]; simp
      have hlv : lvs (d ++ [q]) = (lvs d).add q := by unfold lvs; rw [List.foldl_append]; rfl
      obtain ⟨i, j⟩ := q
      generalize hs : lvs d = s at *
      have hn : max (s.free i) (s.free j) ≤ s.levels.length := Nat.max_le.2 ⟨I.good.le _, I.good.le _⟩
      generalize hN : max (s.free i) (s.free j) = n at hn
      have g1 := I.free i
      have g2 := I.free j
      have hmx := max_int (s.free i) (s.free j)
      rw [hN] at hmx
      have hsl : (sizeLine : Nat) = 16777216 := sizeLine_eq
      have tz2 : tz [EV.D.int (i : Int), .int (j : Int)] = some (.d (prD (i, j))) := tz_ok (by rw [hsl]; simp)
      have tz3 : ∀ a b : EV.D, tz [a, b] = some (.d (.tup [a, b])) := fun a b => tz_ok (by rw [hsl]; simp)
      have ad : ∀ (S : Sto) (a b : Int), binop .Add S (.int a) (.int b) = some (.d (.int (a + b))) := fun _ _ _ => rfl
      have key : ∀ (Ls1 : List (List Pr)) (L1 : List Pr), Ls1[n]? = some L1 → L1.length ≤ d.length → (s.add (i, j)).levels = Ls1.set n (L1 ++ [(i, j)]) →
          ∃ kvs', LvI (d ++ [(i, j)]).length (s.add (i, j)) kvs' ∧ (lvSto S (.lst (locs (S.length + 2) Ls1.length)) (.dK kvs') (Ls1.set n (L1 ++ [(i, j)]))) = lvSto S (.lst (locs (S.length + 2) (s.add (i, j)).levels.length)) (.dK kvs') (s.add (i, j)).levels ∧ kvs' = putG (putG kvs (.inl (i : Int)) (.int ((n : Int) + 1))) (.inl (j : Int)) (.int ((n : Int) + 1)) := fun Ls1 L1 h1 h2 h3 => by
        refine ⟨_, ⟨good_add I.good _, ?_, ?_, ?_, ?_⟩, by rw [h3, List.length_set], rfl⟩
        · have := I.free.put (i, j) n
          show FreeD _ (fr s.free (max (s.free i) (s.free j)) (i, j))
          rw [hN]
          exact this
        · have a1 := putG_len kvs (.inl (i : Int)) (.int ((n : Int) + 1))
          have a2 := putG_len (putG kvs (.inl (i : Int)) (.int ((n : Int) + 1))) (.inl (j : Int)) (.int ((n : Int) + 1))
          have := I.klen
          rw [List.length_append, List.length_singleton]
          omega
        · have := I.llen
          rw [List.length_append, List.length_singleton]
          show (put (max (s.free i) (s.free j)) (i, j) s.levels).length ≤ _
          rw [hN, put_len _ _ _ hn]
          omega
        · rw [List.length_append, List.length_singleton]
          exact short_add I.short _
      have kl := I.klen
      have ll := I.llen
      have kl1 : kvs.length < sizeLine := by omega
      have kl2 : (putG kvs (.inl (i : Int)) (.int ((n : Int) + 1))).length < sizeLine := by
        have a1 := putG_len kvs (.inl (i : Int)) (.int ((n : Int) + 1))
        omega
      rw [hlv]
      by_cases hend : n = s.levels.length
      · obtain ⟨kvs', k1, k2, k3⟩ := key (s.levels ++ [[]]) [] (by rw [hend]; simp) (Nat.zero_le _) (by
          show put (max (s.free i) (s.free j)) (i, j) s.levels = _
          rw [hN, hend, put_end]
          simp)
        refine ⟨_, lvSto S (.lst (locs (S.length + 2) (s.add (i, j)).levels.length)) (.dK kvs') (s.add (i, j)).levels, ?_, kvs', some (.int (i : Int)), some (.int (j : Int)), some (.int (n : Int)), k1, rfl, rfl⟩
        rw [← k2, k3]
        have lzn : lz [] = some (.fl []) := lz_ok (Nat.zero_le _)
        have mo := lvt_more (S := S) (c1 := .dK kvs) (Ls := s.levels) (by omega)
        have it := lvt_item (S := S) (c1 := .dK kvs) (Ls := s.levels ++ [[]]) (n := n) (by rw [hend]; simp)
        have kd := lvt_kind (S := S) (c0 := .lst (locs (S.length + 2) (s.levels ++ [[]]).length)) (c1 := .dK kvs) (Ls := s.levels ++ [[]]) (n := n) (L := []) (by rw [hend]; simp)
        have ap := lvt_app (S := S) (c0 := .lst (locs (S.length + 2) (s.levels ++ [[]]).length)) (c1 := .dK kvs) (Ls := s.levels ++ [[]]) (n := n) (L := []) (q := (i, j)) (d := prD (i, j)) (by rw [hend]; simp) (by rw [hsl]; simp) rfl
        have cd : decide ((s.levels.length : Int) = (n : Int)) = true := by rw [hend]; simp
        simp only [_law_in_levels_t3, _law_in_levels_b4, excs, exc, ev, evs, evo, evi, evt, asg, asgs, dOf_d, dOf_fl, tOf_some, Option.bind_some, Option.map_some, Option.bind_none, Option.map_none, bfun, EV.b1, EV.b2, setMany, plOf, seqOf, tupOf, lstOf, lsmOf, truth, cmpop, ltD, EV.i2, prD, List.length_cons, List.length_nil, Nat.reduceAdd, Nat.reduceLT, if_true, List.set_cons_zero, List.set_cons_succ, List.getElem?_cons_succ, List.getElem?_cons_zero, Option.join_some, lvt_kindD, lvt_get, g1, g2, hmx, lvt_lenL, eqD_ints, cd, lzn, Vl.place, lvt_kindL, mo, it, kd, tz2, tz3, ad, ap, lvt_put kl1, lvt_put kl2]
      · have hlt : n < s.levels.length := by omega
        have hL : s.levels[n]? = some s.levels[n] := List.getElem?_eq_getElem hlt
        generalize hLn : s.levels[n] = L at hL
        have hLl : L.length ≤ d.length := I.short L (List.mem_of_getElem? hL)
        obtain ⟨kvs', k1, k2, k3⟩ := key s.levels L hL hLl (by
          show put (max (s.free i) (s.free j)) (i, j) s.levels = _
          rw [hN, put_at _ _ _ _ hL])
        refine ⟨_, lvSto S (.lst (locs (S.length + 2) (s.add (i, j)).levels.length)) (.dK kvs') (s.add (i, j)).levels, ?_, kvs', some (.int (i : Int)), some (.int (j : Int)), some (.int (n : Int)), k1, rfl, rfl⟩
        rw [← k2, k3]
        have it := lvt_item (S := S) (c1 := .dK kvs) (Ls := s.levels) (n := n) hlt
        have kd := lvt_kind (S := S) (c0 := .lst (locs (S.length + 2) s.levels.length)) (c1 := .dK kvs) hL
        have ap := lvt_app (S := S) (c0 := .lst (locs (S.length + 2) s.levels.length)) (c1 := .dK kvs) (q := (i, j)) (d := prD (i, j)) hL (by omega) rfl
        have cd : decide ((s.levels.length : Int) = (n : Int)) = false := by rw [decide_eq_false_iff_not]; omega
        simp only [_law_in_levels_t3, _law_in_levels_b4, excs, exc, ev, evs, evo, evi, evt, asg, asgs, dOf_d, dOf_fl, tOf_some, Option.bind_some, Option.map_some, Option.bind_none, Option.map_none, bfun, EV.b1, EV.b2, setMany, plOf, seqOf, tupOf, lstOf, lsmOf, truth, cmpop, ltD, EV.i2, prD, List.length_cons, List.length_nil, Nat.reduceAdd, Nat.reduceLT, if_true, if_false, Bool.false_eq_true, List.set_cons_zero, List.set_cons_succ, List.getElem?_cons_succ, List.getElem?_cons_zero, Option.join_some, lvt_kindD, lvt_get, g1, g2, hmx, lvt_lenL, eqD_ints, cd, it, kd, tz2, tz3, ad, ap, lvt_put kl1, lvt_put kl2])
  obtain ⟨ρ', S', c2, kvs, a, b, e, I, rfl, rfl⟩ := c1
  rw [List.nil_append] at I c2
  have ll := I.llen
  have hsl : (sizeLine : Nat) = 16777216 := sizeLine_eq
  generalize hs : lvs ps = s at *
  have c3 := comp_map (tg := fun d ρ S' => asg (clJ pg J) S.length (_law_in_levels_t2 x) d ρ S') (tst := fun _ S => some (true, S)) (elt := fun ρ S' => dOf (ev (clJ pg J) S.length (_law_in_levels_e1 x) ρ S')) (ws := [S.length]) (ρ := wipeE [some v, some (.loc S.length), some (.loc (S.length + 1)), a, b, e, none] [6]) (S0 := lvSto S (.lst (locs (S.length + 2) s.levels.length)) (.dK kvs) s.levels) (S := lvSto S (.lst (locs (S.length + 2) s.levels.length)) (.dK kvs) s.levels)
    (fun i : Nat => EV.D.loc (S.length + 2 + i)) (fun i : Nat => lvD (soP (s.levels[i]?.getD []))) stay_self (List.range s.levels.length) [] (fun i hi => by
      have hi : i < s.levels.length := List.mem_range.1 hi
      have hL : s.levels[i]? = some s.levels[i] := List.getElem?_eq_getElem hi
      generalize hLn : s.levels[i] = L at hL
      have hLl : L.length ≤ ps.length := I.short L (List.mem_of_getElem? hL)
      refine ⟨[some v, some (.loc S.length), some (.loc (S.length + 1)), a, b, e, some (.loc (S.length + 2 + i))], by simp [_law_in_levels_t2, asg, wipeE], rfl, ?_⟩
      have so : bSort (lvSto S (.lst (locs (S.length + 2) s.levels.length)) (.dK kvs) s.levels) (.loc (S.length + 2 + i)) = some (.fl ((soP L).map prD)) := by
        simp only [bSort, seqOf, tupOf, lstOf, lvSto_lv hL]
        rw [sortD_prs L (by omega)]
        rfl
      have tu : ∀ (S : Sto) (ds : List EV.D), bTup S (.lst ds) = some (.d (.tup ds)) := fun _ _ => rfl
      simp [_law_in_levels_e1, excs, exc, ev, evs, evo, evi, evt, asg, asgs, dOf_d, dOf_fl, tOf_some, Option.bind_some, Option.map_some, Option.bind_none, Option.map_none, bfun, EV.b1, EV.b2, setMany, plOf, seqOf, tupOf, lstOf, lsmOf, truth, cmpop, ltD, EV.i2, so, tu, hL]) (by simp; omega)
  have hrange : (List.range s.levels.length).map (fun i : Nat => EV.D.loc (S.length + 2 + i)) = locs (S.length + 2) s.levels.length := by
    refine List.ext_getElem? fun i => ?_
    rw [List.getElem?_map]
    by_cases hi : i < s.levels.length
    · rw [locs_get _ _ _ hi, List.getElem?_range hi]; rfl
    · rw [List.getElem?_eq_none (by simp; omega), List.getElem?_eq_none (by rw [locs_len]; omega)]; rfl
  have hvals : (List.range s.levels.length).map (fun i : Nat => lvD (soP (s.levels[i]?.getD []))) = s.levels.map fun L => lvD (soP L) := by
    refine List.ext_getElem? fun i => ?_
    rw [List.getElem?_map, List.getElem?_map]
    by_cases hi : i < s.levels.length
    · rw [List.getElem?_range hi]; simp [hi]
    · rw [List.getElem?_eq_none (by simp; omega), List.getElem?_eq_none (by omega)]; rfl
  rw [hrange, hvals, List.nil_append] at c3
  have hpl : ∀ n : Nat, lvSto S (.lst []) (.dK []) [] = S ++ [.lst [], .dK []] := fun _ => rfl
  have lzn : lz [] = some (.fl []) := lz_ok (Nat.zero_le _)
  have tu : ∀ (S : Sto) (ds : List EV.D), bTup S (.lst ds) = some (.d (.tup ds)) := fun _ _ => rfl
  refine run_d h0 (S' := lvSto S (.lst (locs (S.length + 2) s.levels.length)) (.dK kvs) s.levels) (d := .lst (s.levels.map fun L => lvD (soP L))) rfl ?_ (fin_val (unders_map fun L _ => fine_under _ (lvD_fine _)) lvSto_take)
  rw [hpl 0] at c2
  have hl1 : lstOf (lvSto S (.lst (locs (S.length + 2) s.levels.length)) (.dK kvs) s.levels) (.loc S.length) = some (locs (S.length + 2) s.levels.length) := by simp only [lstOf, lvSto_0]
  rcases hv with rfl | rfl
  all_goals
    simp only [clJ] at c2 c3
    simp [B__law_in_levels, excs, exc, ev, evs, evo, evi, evt, asg, asgs, dOf_d, dOf_fl, tOf_some, Option.bind_some, Option.map_some, Option.bind_none, Option.map_none, bfun, EV.b1, EV.b2, setMany, plOf, seqOf, tupOf, lstOf, lsmOf, truth, cmpop, ltD, EV.i2, lzn, Vl.place, c2, lvSto_0, c3]
end
end EV
end
section
set_option maxRecDepth 100000
set_option autoImplicit false
namespace EV
open PySem L2
def _law_halves_t1 (x : Ix) : Tg := (.nm 3)
def _law_halves_s2 (x : Ix) : Src := (.rng (.cons (.bf .max (.cons (.bf .len (.cons (.var 4) .nil)) (.cons (.bf .len (.cons (.var 5) .nil)) .nil))) .nil))
def _law_halves_x3 (x : Ix) : Ex := (.ite (.cmp .Lt (.var 3) (.bf .len (.cons (.var 4) .nil))) (.ix (.var 4) (.var 3)) (.tup .nil))
def _law_halves_x4 (x : Ix) : Ex := (.ite (.cmp .Lt (.var 3) (.bf .len (.cons (.var 5) .nil))) (.ix (.var 5) (.var 3)) (.tup .nil))
def _law_halves_b5 (x : Ix) : Sms := (.cons (.set (.nm 6) (.bin .Add (_law_halves_x3 x) (_law_halves_x4 x)))
  (.cons (.ex (.bm .append (.var 2) (.cons (.bf .tuple (.cons (.bf .sorted (.cons (.var 6) .nil)) .nil)) .nil)))
  .nil))
/-- _law_halves -/
def B__law_halves (x : Ix) : Sms := (.cons (.iff (.cmp .Lt (.bf .len (.cons (.var 0) .nil)) (.cst (.int 2)))
  (.cons (.ret (.lst .nil))
  .nil)
  .nil)
  (.cons (.set (.nm 1) (.bin .FloorDiv (.bf .len (.cons (.var 0) .nil)) (.cst (.int 2))))
  (.cons (.par [4, 5] (.cons (.call (x.f F._law_halves) (.cons (.sl (.var 0) .no (.so (.var 1)) .one) .nil)) (.cons (.call (x.f F._law_halves) (.cons (.sl (.var 0) (.so (.var 1)) .no .one) .nil)) .nil)))
  (.cons (.set (.nm 2) (.new (.lst .nil)))
  (.cons (.for (_law_halves_t1 x) (_law_halves_s2 x)
  (_law_halves_b5 x))
  (.cons (.ret (.bin .Add (.var 2) (.call (x.f F._law_in_levels) (.cons (.call (x.f F._law_merging) (.cons (.sl (.var 0) .no (.so (.var 1)) .one) (.cons (.sl (.var 0) (.so (.var 1)) .no .one) .nil))) .nil))))
  .nil))))))
abbrev Df__law_halves (x : Ix) : Df := ⟨7, 1, true, B__law_halves x⟩
def _law_through_t1 (x : Ix) : Tg := (.nm 3)
def _law_through_t2 (x : Ix) : Tg := (.tup (.cons (.nm 4) (.cons (.nm 5) .nil)))
def _law_through_b3 (x : Ix) : Sms := (.cons (.par [6, 7] (.cons (.bf .min (.cons (.ix (.var 2) (.var 4)) (.cons (.ix (.var 2) (.var 5)) .nil))) (.cons (.bf .max (.cons (.ix (.var 2) (.var 4)) (.cons (.ix (.var 2) (.var 5)) .nil))) .nil)))
  (.cons (.set (.ix (.var 2) (.var 4)) (.var 6))
  (.cons (.set (.ix (.var 2) (.var 5)) (.var 7))
  .nil)))
def _law_through_b4 (x : Ix) : Sms := (.cons (.for (_law_through_t2 x) (.ex (.var 3))
  (_law_through_b3 x))
  .nil)
/-- _law_through -/
def B__law_through (x : Ix) : Sms := (.cons (.set (.nm 2) (.new (.bf .list (.cons (.var 1) .nil))))
  (.cons (.for (_law_through_t1 x) (.ex (.var 0))
  (_law_through_b4 x))
  (.cons (.ret (.var 2))
  .nil)))
abbrev Df__law_through (x : Ix) : Df := ⟨8, 2, true, B__law_through x⟩
def law_t1 (x : Ix) : Tg := (.nm 2)
def law_s2 (x : Ix) : Src := (.rng (.cons (.cst (.int 2)) .nil))
def law_t3 (x : Ix) : Tg := (.nm 8)
def law_b4 (x : Ix) : Sms := (.cons (.iff (.not (.call (x.f F._law_alike) (.cons (.call (x.f F.done) (.cons (.var 11) (.cons (.var 8) .nil))) (.cons (.bf .tuple (.cons (.call (x.f F._law_through) (.cons (.var 11) (.cons (.var 8) .nil))) .nil)) .nil))))
  (.cons (.ret (.cst (.bl false)))
  .nil)
  .nil)
  .nil)
def law_e5 (x : Ix) : Ex := (.tup (.cons (.var 16) (.cons (.var 15) .nil)))
def law_t6 (x : Ix) : Tg := (.tup (.cons (.nm 15) (.cons (.nm 16) .nil)))
def law_s7 (x : Ix) : Src := (.enum (.ix (.var 7) (.cst (.int 2))))
def law_t8 (x : Ix) : Tg := (.nm 8)
def law_b9 (x : Ix) : Sms := (.cons (.iff (.not (.call (x.f F._law_alike) (.cons (.lst (.cons (.call (x.f F.done) (.cons (.var 4) (.cons (.var 8) .nil))) (.cons (.call (x.f F.done) (.cons (.call (x.f F.levelled) (.cons (.var 5) .nil)) (.cons (.var 8) .nil))) .nil))) (.cons (.bin .Mult (.lst (.cons (.bf .tuple (.cons (.bf .sorted (.cons (.var 8) .nil)) .nil)) .nil)) (.cst (.int 2))) .nil))))
  (.cons (.ret (.cst (.bl false)))
  .nil)
  .nil)
  .nil)
def law_e10 (x : Ix) : Ex := (.bf .int (.cons (.cmp .Lt (.var 15) (.var 14)) .nil))
def law_t11 (x : Ix) : Tg := (.nm 15)
def law_s12 (x : Ix) : Src := (.rng (.cons (.var 3) .nil))
def law_e13 (x : Ix) : Ex := (.bin .Mod (.bf .int (.cons (.bin .Mult (.bin .Add (.var 15) (.var 13)) (.var 12)) .nil)) (.cst (.int 2)))
def law_t14 (x : Ix) : Tg := (.nm 15)
def law_s15 (x : Ix) : Src := (.rng (.cons (.var 3) .nil))
def law_e16 (x : Ix) : Ex := (.bin .Mod (.bf .int (.cons (.bin .Add (.bin .Mult (.var 15) (.var 15)) (.var 12)) .nil)) (.cst (.int 7)))
def law_t17 (x : Ix) : Tg := (.nm 15)
def law_s18 (x : Ix) : Src := (.rng (.cons (.var 3) .nil))
def law_e19 (x : Ix) : Ex := (.bin .Mod (.bf .int (.cons (.bin .Add (.var 13) (.bin .Mult (.var 12) (.var 15))) .nil)) (.var 3))
def law_t20 (x : Ix) : Tg := (.nm 15)
def law_s21 (x : Ix) : Src := (.rng (.cons (.var 3) .nil))
def law_s22 (x : Ix) : Src := (.rng (.cons (.var 3) .nil))
def law_s23 (x : Ix) : Src := (.rng (.cons (.var 3) .nil))
def law_b24 (x : Ix) : Sms := (.cons (.set (.nm 3) (.call (x.f F._law_some) (.cons (.var 1) (.cons (.lst (.cons (.cst (.int 64)) (.cons (.cst (.int 127)) (.cons (.cst (.int 128)) (.cons (.bin .Add (.cst (.int 1)) (.call (x.f F._law_take) (.cons (.var 1) (.cons (.cst (.int 128)) .nil)))) (.cons (.bin .Add (.cst (.int 1)) (.call (x.f F._law_take) (.cons (.var 1) (.cons (.cst (.int 128)) .nil)))) .nil)))))) .nil))))
  (.cons (.set (.nm 4) (.call (x.f F.odd_even) (.cons (.var 3) .nil)))
  (.cons (.iff (.or (.not (.call (x.f F._law_alike) (.cons (.var 4) (.cons (.bf .tuple (.cons (.call (x.f F._law_halves) (.cons (.bfi .list (law_s23 x)) .nil)) .nil)) .nil)))) (.not (.call (x.f F._law_alike) (.cons (.call (x.f F.is_network) (.cons (.var 3) (.cons (.var 4) .nil))) (.cons (.cst (.bl true)) .nil)))))
  (.cons (.ret (.cst (.bl false)))
  .nil)
  .nil)
  (.cons (.set (.nm 5) (.call (x.f F.pairs_of) (.cons (.var 4) .nil)))
  (.cons (.set (.nm 6) (.bf .len (.cons (.var 4) .nil)))
  (.cons (.iff (.not (.call (x.f F._law_alike) (.cons (.call (x.f F.order_cost) (.cons (.var 3) .nil)) (.cons (.tup (.cons (.var 6) (.cons (.bin .Mult (.var 3) (.var 6)) (.cons (.bin .Mult (.var 3) (.var 6)) (.cons (.bf .len (.cons (.var 5) .nil)) .nil))))) .nil))))
  (.cons (.ret (.cst (.bl false)))
  .nil)
  .nil)
  (.cons (.set (.tup (.cons (.nm 12) (.cons (.nm 13) (.cons (.nm 14) .nil)))) (.tup (.cons (.bin .Add (.cst (.int 1)) (.bin .Mult (.cst (.int 2)) (.call (x.f F._law_take) (.cons (.var 1) (.cons (.cst (.int 64)) .nil))))) (.cons (.call (x.f F._law_take) (.cons (.var 1) (.cons (.var 3) .nil))) (.cons (.call (x.f F._law_take) (.cons (.var 1) (.cons (.bin .Add (.var 3) (.cst (.int 1))) .nil))) .nil)))))
  (.cons (.set (.nm 7) (.new (.lst (.cons (.sl (.bfi .tuple (law_s22 x)) .no .no .back) (.cons (.bf .tuple (.cons (.comp (law_e19 x) [15] (law_t20 x) (law_s21 x) .nil) .nil)) .nil)))))
  (.cons (.ex (.bm .append (.var 7) (.cons (.bf .tuple (.cons (.comp (law_e16 x) [15] (law_t17 x) (law_s18 x) .nil) .nil)) .nil)))
  (.cons (.ex (.bm .append (.var 7) (.cons (.bf .tuple (.cons (.comp (law_e13 x) [15] (law_t14 x) (law_s15 x) .nil) .nil)) .nil)))
  (.cons (.ex (.bm .append (.var 7) (.cons (.bf .tuple (.cons (.comp (law_e10 x) [15] (law_t11 x) (law_s12 x) .nil) .nil)) .nil)))
  (.cons (.for (law_t8 x) (.ex (.var 7))
  (law_b9 x))
  (.cons (.set (.nm 9) (.bf .tuple (.cons (.comp (law_e5 x) [15, 16] (law_t6 x) (law_s7 x) .nil) .nil)))
  (.cons (.set (.nm 10) (.lst (.cons (.call (x.f F.done) (.cons (.var 4) (.cons (.var 9) .nil))) (.cons (.call (x.f F.done) (.cons (.call (x.f F.neighbours) (.cons (.var 3) .nil)) (.cons (.ix (.var 7) (.cst (.int 1))) .nil))) .nil))))
  (.cons (.iff (.not (.call (x.f F._law_alike) (.cons (.var 10) (.cons (.lst (.cons (.bf .tuple (.cons (.bf .sorted (.cons (.var 9) .nil)) .nil)) (.cons (.bf .tuple (.cons (.bf .sorted (.cons (.ix (.var 7) (.cst (.int 1))) .nil)) .nil)) .nil))) .nil))))
  (.cons (.ret (.cst (.bl false)))
  .nil)
  .nil)
  (.cons (.set (.nm 11) (.sl (.var 4) .no (.so (.neg (.cst (.int 1)))) .one))
  (.cons (.for (law_t3 x) (.ex (.var 7))
  (law_b4 x))
  .nil)))))))))))))))))
/-- law -/
def B_law (x : Ix) : Sms := (.cons (.set (.nm 1) (.call (x.f F._law_bag) (.cons (.var 0) .nil)))
  (.cons (.for (law_t1 x) (law_s2 x)
  (law_b24 x))
  (.cons (.ret (.cst (.bl true)))
  .nil)))
abbrev Df_law (x : Ix) : Df := ⟨17, 1, true, B_law x⟩
end EV
end
section
set_option maxRecDepth 100000
set_option autoImplicit false
set_option maxHeartbeats 8000000
/-! the law's own halves, and its way through a network: walked -/
namespace EV
open PySem L2 Nw
structure LawNet (pg : Pg) (x : Ix) : Prop where
  in_levels : pg.defs[x.f F._law_in_levels]? = some (Df__law_in_levels x)
  merging : pg.defs[x.f F._law_merging]? = some (Df__law_merging x)
section
variable {pg : Pg} {x : Ix}
theorem halves_beside {J b : Nat} {S : Sto} (hb : b = S.length) (v0 : EV.D) (r1 : Option EV.D) (as bs : List (List Pr)) (ha : as.length ≤ 1000) (hb' : bs.length ≤ 1000) (hA : ∀ A ∈ as, A.length ≤ 1000) (hB : ∀ B ∈ bs, B.length ≤ 1000) :
    (∀ (S' : Sto) (r2 r3 r6 : Option EV.D), evi (clJ pg J) b (_law_halves_s2 x) [some v0, r1, r2, r3, some (.lst (as.map lvD)), some (.lst (bs.map lvD)), r6] S' = some (((List.range (max as.length bs.length)).map nI, []), S')) ∧
    ∃ r3 r6, forX (clJ pg J) b (_law_halves_t1 x) (_law_halves_b5 x) [] (S ++ [.lst []]) ((List.range (max as.length bs.length)).map nI) [some v0, r1, some (.loc S.length), none, some (.lst (as.map lvD)), some (.lst (bs.map lvD)), none] (S ++ [.lst []]) = some (.nx [some v0, r1, some (.loc S.length), r3, some (.lst (as.map lvD)), some (.lst (bs.map lvD)), r6] (S ++ [.lst ((sd soP as bs).map lvD)])) := by
  subst hb
  have hsl : (sizeLine : Nat) = 16777216 := sizeLine_eq
  have tzn : tz [] = some (.d (.tup [])) := tz_ok (Nat.zero_le _)
  have hmax : max as.length bs.length ≤ 1000 := by omega
  generalize hM : max as.length bs.length = M at hmax
  have hsdl : (sd soP as bs).length = M := by rw [sd_len, hM]
  refine ⟨fun S' r2 r3 r6 => ?_, ?_⟩
  · refine rng1 ?_ (by omega)
    have mx := maxN as.length bs.length
    rw [hM] at mx
    simp only [excs, exc, ev, evs, evo, evi, evt, asg, asgs, dOf_d, dOf_fl, tOf_some, Option.bind_some, Option.map_some, Option.bind_none, Option.map_none, bfun, EV.b1, EV.b2, setMany, plOf, seqOf, tupOf, lstOf, lsmOf, truth, cmpop, ltD, EV.i2, List.map_cons, List.map_nil, List.length_cons, List.length_nil, Nat.reduceAdd, Nat.reduceLT, Nat.reduceSub, if_true, if_false, Bool.false_eq_true, List.set_cons_zero, List.set_cons_succ, List.getElem?_cons_succ, List.getElem?_cons_zero, Option.join_some, List.cons_append, List.nil_append, List.replicate, decide_true, decide_false, Bool.not_true, Bool.not_false, reduceCtorEq, len_lst, List.length_map, mx]
  have c1 := for_inv (tg := fun d ρ S' => asg (clJ pg J) S.length (_law_halves_t1 x) d ρ S') (body := fun ρ S' => excs (clJ pg J) S.length (_law_halves_b5 x) ρ S') (ws := []) (S0 := S ++ [.lst []]) nI
    (fun (d : List Nat) ρ S' => S' = S ++ [.lst (((sd soP as bs).take d.length).map lvD)] ∧ ∃ a b, ρ = [some v0, r1, some (.loc S.length), a, some (.lst (as.map lvD)), some (.lst (bs.map lvD)), b]) (fun _ _ _ _ => rfl) (List.range M) []
    [some v0, r1, some (.loc S.length), none, some (.lst (as.map lvD)), some (.lst (bs.map lvD)), none] (S ++ [.lst []]) ⟨rfl, none, none, rfl⟩ (fun d i r ρ S' hd hI => by
      obtain ⟨rfl, a, b, rfl⟩ := hI
      have hi : i = d.length ∧ i < M := by
        rw [List.nil_append] at hd
        have h1 : (List.range M)[d.length]? = some i := by rw [hd]; simp
        have h2 := (List.getElem?_eq_some_iff.mp h1)
        have h3 : d.length < M := by simpa using h2.1
        have h4 : d.length = i := by simpa using h2.2
        exact ⟨h4.symm, h4 ▸ h3⟩
      obtain ⟨rfl, hiM⟩ := hi
      have hget := sd_get soP as bs d.length (by omega)
      generalize hX : as[d.length]?.getD [] = X at hget
      generalize hY : bs[d.length]?.getD [] = Y at hget
      have hXl : X.length ≤ 1000 := by
        rw [← hX]
        by_cases h : d.length < as.length
        · rw [List.getElem?_eq_getElem h]; exact hA _ (List.getElem_mem h)
        · rw [List.getElem?_eq_none (by omega)]; simp
      have hYl : Y.length ≤ 1000 := by
        rw [← hY]
        by_cases h : d.length < bs.length
        · rw [List.getElem?_eq_getElem h]; exact hB _ (List.getElem_mem h)
        · rw [List.getElem?_eq_none (by omega)]; simp
      have st : (S ++ [Cell.lst (((sd soP as bs).take d.length).map lvD)])[S.length]? = some (.lst (((sd soP as bs).take d.length).map lvD)) := by simp
      have kd := kind_loc st
      have ap := app_loc (B := S.length) (d := lvD (soP (X ++ Y))) st (Nat.le_refl _) (by rw [hsl, List.length_map, List.length_take]; omega)
      have e1 : (S ++ [Cell.lst (((sd soP as bs).take d.length).map lvD)]).set S.length (.lst (((sd soP as bs).take d.length).map lvD ++ [lvD (soP (X ++ Y))])) = S ++ [.lst (((sd soP as bs).take (d ++ [d.length]).length).map lvD)] := by
        rw [List.set_append_right _ _ (Nat.le_refl _), List.length_append, List.length_singleton, List.take_add_one, hget]
        simp
      rw [e1] at ap
      refine ⟨_, _, ?_, rfl, some (nI d.length), some (lvD (X ++ Y)), rfl⟩
      have i1 : ∀ (S' : Sto) (r r2 : Option EV.D), ev (clJ pg J) S.length (_law_halves_x3 x) [some v0, r1, r2, some (nI d.length), some (.lst (as.map lvD)), some (.lst (bs.map lvD)), r] S' = some (.d (lvD X), S') := fun S' r r2 => by
        rw [← hX]
        by_cases h : d.length < as.length
        · have h' : (d.length : Int) < (as.length : Int) := by omega
          have hg : as[d.length]? = some as[d.length] := List.getElem?_eq_getElem h
          have ix := ix_lst (S := S') (xs := as.map lvD) (n := d.length) (a := lvD as[d.length]) (by rw [List.getElem?_map, hg]; rfl)
          simp [_law_halves_x3, excs, exc, ev, evs, evo, evi, evt, asg, asgs, dOf_d, dOf_fl, tOf_some, Option.bind_some, Option.map_some, Option.bind_none, Option.map_none, bfun, EV.b1, EV.b2, setMany, plOf, seqOf, tupOf, lstOf, lsmOf, truth, cmpop, ltD, EV.i2, len_lst, ltI2, h', h, ix]
        · have h' : ¬ (d.length : Int) < (as.length : Int) := by omega
          simp [_law_halves_x3, excs, exc, ev, evs, evo, evi, evt, asg, asgs, dOf_d, dOf_fl, tOf_some, Option.bind_some, Option.map_some, Option.bind_none, Option.map_none, bfun, EV.b1, EV.b2, setMany, plOf, seqOf, tupOf, lstOf, lsmOf, truth, cmpop, ltD, EV.i2, len_lst, ltI2, h', h, tzn]
      have i2 : ∀ (S' : Sto) (r r2 : Option EV.D), ev (clJ pg J) S.length (_law_halves_x4 x) [some v0, r1, r2, some (nI d.length), some (.lst (as.map lvD)), some (.lst (bs.map lvD)), r] S' = some (.d (lvD Y), S') := fun S' r r2 => by
        rw [← hY]
        by_cases h : d.length < bs.length
        · have h' : (d.length : Int) < (bs.length : Int) := by omega
          have hg : bs[d.length]? = some bs[d.length] := List.getElem?_eq_getElem h
          have ix := ix_lst (S := S') (xs := bs.map lvD) (n := d.length) (a := lvD bs[d.length]) (by rw [List.getElem?_map, hg]; rfl)
          simp [_law_halves_x4, excs, exc, ev, evs, evo, evi, evt, asg, asgs, dOf_d, dOf_fl, tOf_some, Option.bind_some, Option.map_some, Option.bind_none, Option.map_none, bfun, EV.b1, EV.b2, setMany, plOf, seqOf, tupOf, lstOf, lsmOf, truth, cmpop, ltD, EV.i2, len_lst, ltI2, h', h, ix]
        · have h' : ¬ (d.length : Int) < (bs.length : Int) := by omega
          simp [_law_halves_x4, excs, exc, ev, evs, evo, evi, evt, asg, asgs, dOf_d, dOf_fl, tOf_some, Option.bind_some, Option.map_some, Option.bind_none, Option.map_none, bfun, EV.b1, EV.b2, setMany, plOf, seqOf, tupOf, lstOf, lsmOf, truth, cmpop, ltD, EV.i2, len_lst, ltI2, h', h, tzn]
      have ad : ∀ S : Sto, binop .Add S (lvD X) (lvD Y) = some (.d (lvD (X ++ Y))) := fun S => by
        rw [add_tup (by rw [hsl]; simp; omega)]
        simp only [lvD, List.map_append]
      have so : ∀ S : Sto, bSort S (lvD (X ++ Y)) = some (.fl ((soP (X ++ Y)).map prD)) := fun S => by
        show (sortD ((X ++ Y).map prD)).map Vl.fl = _
        rw [sortD_prs _ (by rw [hsl, List.length_append]; omega)]
        rfl
      simp only [clJ] at i1 i2
      simp only [_law_halves_t1, _law_halves_b5, excs, exc, ev, evs, evo, evi, evt, asg, asgs, dOf_d, dOf_fl, tOf_some, Option.bind_some, Option.map_some, Option.bind_none, Option.map_none, bfun, EV.b1, EV.b2, setMany, plOf, seqOf, tupOf, lstOf, lsmOf, truth, cmpop, ltD, EV.i2, List.map_cons, List.map_nil, List.length_cons, List.length_nil, Nat.reduceAdd, Nat.reduceLT, Nat.reduceSub, if_true, if_false, Bool.false_eq_true, List.set_cons_zero, List.set_cons_succ, List.getElem?_cons_succ, List.getElem?_cons_zero, Option.join_some, List.cons_append, List.nil_append, List.replicate, decide_true, decide_false, Bool.not_true, Bool.not_false, reduceCtorEq, i1, i2, ad, kd, so, tup_lst, ap])
  obtain ⟨ρ', S', c2, rfl, a, b, rfl⟩ := c1
  rw [List.nil_append, List.length_range] at c2
  have ht : (sd soP as bs).take M = sd soP as bs := List.take_of_length_le (by omega)
  rw [ht] at c2
  exact ⟨a, b, c2⟩
theorem halves_run (h0 : pg.defs[x.f F._law_halves]? = some (Df__law_halves x)) (H : LawNet pg x) {N : Nat} (hN : N ≤ 1000) : ∀ (k : Nat), k ≤ 20 → ∀ ps : List Nat, ps.length ≤ 2 ^ k → ps.length ≤ 1000 → Asc ps → (∀ a ∈ ps, a < N) → ∀ {J : Nat}, 2 * k + 4 ≤ J → ∀ (B : Nat) (S : Sto), run pg J (x.f F._law_halves) [.lst (ps.map nI)] B S = some (.lst ((ord soP k ps).map lvD), S) := by
  intro k
  induction k with
  | zero =>
    intro _ ps h1 h2 ha hn J hJ B S
    obtain ⟨J, rfl⟩ : ∃ j, J = j + 1 := ⟨J - 1, by omega⟩
    have lzn : lz [] = some (.fl []) := lz_ok (Nat.zero_le _)
    have hlt : decide ((ps.length : Int) < 2) = true := by rw [decide_eq_true_iff]; simp at h1; omega
    refine run_d h0 (S' := S) (d := .lst ((ord soP 0 ps).map lvD)) rfl ?_ (fin_val rfl (by simp))
    simp only [B__law_halves, excs, exc, ev, evs, evo, evi, evt, asg, asgs, dOf_d, dOf_fl, tOf_some, Option.bind_some, Option.map_some, Option.bind_none, Option.map_none, bfun, EV.b1, EV.b2, setMany, plOf, seqOf, tupOf, lstOf, lsmOf, truth, cmpop, ltD, EV.i2, List.map_cons, List.map_nil, List.length_cons, List.length_nil, Nat.reduceAdd, Nat.reduceLT, Nat.reduceSub, if_true, if_false, Bool.false_eq_true, List.set_cons_zero, List.set_cons_succ, List.getElem?_cons_succ, List.getElem?_cons_zero, Option.join_some, List.cons_append, List.nil_append, List.replicate, decide_true, decide_false, Bool.not_true, Bool.not_false, reduceCtorEq, len_lst, List.length_map, ltI2, hlt, lzn]
    rfl
  | succ k ih =>
    intro hk ps h1 h2 ha hn J hJ B S
    obtain ⟨J, rfl⟩ : ∃ j, J = j + 1 := ⟨J - 1, by omega⟩
    have lzn : lz [] = some (.fl []) := lz_ok (Nat.zero_le _)
    by_cases hlt : ps.length < 2
    · have hlt' : decide ((ps.length : Int) < 2) = true := by rw [decide_eq_true_iff]; omega
      have ho : ord soP (k + 1) ps = [] := by rw [ord, if_pos hlt]
      rw [ho]
      refine run_d h0 (S' := S) (d := .lst []) rfl ?_ (fin_val rfl (by simp))
      simp only [B__law_halves, excs, exc, ev, evs, evo, evi, evt, asg, asgs, dOf_d, dOf_fl, tOf_some, Option.bind_some, Option.map_some, Option.bind_none, Option.map_none, bfun, EV.b1, EV.b2, setMany, plOf, seqOf, tupOf, lstOf, lsmOf, truth, cmpop, ltD, EV.i2, List.map_cons, List.map_nil, List.length_cons, List.length_nil, Nat.reduceAdd, Nat.reduceLT, Nat.reduceSub, if_true, if_false, Bool.false_eq_true, List.set_cons_zero, List.set_cons_succ, List.getElem?_cons_succ, List.getElem?_cons_zero, Option.join_some, List.cons_append, List.nil_append, List.replicate, decide_true, decide_false, Bool.not_true, Bool.not_false, reduceCtorEq, len_lst, List.length_map, ltI2, hlt', lzn]
    · have hlt' : decide ((ps.length : Int) < 2) = false := by rw [decide_eq_false_iff_not]; omega
      have pw : (2 : Nat) ^ (k + 1) = 2 * 2 ^ k := by rw [Nat.pow_succ]; omega
      have dv : ∀ S : Sto, binop .FloorDiv S (.int (ps.length : Int)) (.int 2) = some (.d (.int ((ps.length / 2 : Nat) : Int))) := fun S => div_int ⟨by decide, by decide⟩
      have lt1 : (ps.take (ps.length / 2)).length = ps.length / 2 := by rw [List.length_take]; omega
      have ld1 : (ps.drop (ps.length / 2)).length = ps.length - ps.length / 2 := by rw [List.length_drop]
      have t1 : ∀ S : Sto, slice S (.lst (ps.map nI)) none (some ((ps.length / 2 : Nat) : Int)) .one = some (.fl ((ps.take (ps.length / 2)).map nI)) := fun S => by rw [sl_lst, cutD_to, List.map_take]
      have t2 : ∀ S : Sto, slice S (.lst (ps.map nI)) (some ((ps.length / 2 : Nat) : Int)) none .one = some (.fl ((ps.drop (ps.length / 2)).map nI)) := fun S => by rw [sl_lst, cutD_from, List.map_drop]
      have a1 := asc_take ha (ps.length / 2)
      have a2 := asc_drop ha (ps.length / 2)
      have n1 : ∀ a ∈ ps.take (ps.length / 2), a < N := fun a h => hn a (List.mem_of_mem_take h)
      have n2 : ∀ a ∈ ps.drop (ps.length / 2), a < N := fun a h => hn a (List.mem_of_mem_drop h)
      have o1 := fun B S => ih (by omega) (ps.take (ps.length / 2)) (by omega) (by omega) a1 n1 (J := J) (by omega) B S
      have o2 := fun B S => ih (by omega) (ps.drop (ps.length / 2)) (by omega) (by omega) a2 n2 (J := J) (by omega) B S
      have m1 := fun B S => lmerging_run H.merging k (by omega) (ps.take (ps.length / 2)) (ps.drop (ps.length / 2)) (by omega) (by omega) (by omega) (J := J) (by omega) B S
      have ml := mrg_len (k + 1) (ps.take (ps.length / 2)) (ps.drop (ps.length / 2))
      have ml2 : (mrg (k + 1) (ps.take (ps.length / 2)) (ps.drop (ps.length / 2))).length ≤ 21 * 1000 := Nat.le_trans ml (Nat.mul_le_mul (by omega) (by omega))
      have v1 := fun B S => llevels_run H.in_levels (J := J) (by omega) (mrg (k + 1) (ps.take (ps.length / 2)) (ps.drop (ps.length / 2))) (by omega) _ (.inl rfl) B S
      have k1 := ord_len (so := soP) k (ps.take (ps.length / 2)) a1.inj
      have k2 := ord_len (so := soP) k (ps.drop (ps.length / 2)) a2.inj
      have kk : k * k ≤ 20 * 20 := Nat.mul_le_mul (by omega) (by omega)
      obtain ⟨s1, r3, r6, s2⟩ := halves_beside (pg := pg) (x := x) (J := J) (b := S.length) (S := S) rfl (.lst (ps.map nI)) (some (.int ((ps.length / 2 : Nat) : Int))) (ord soP k (ps.take (ps.length / 2))) (ord soP k (ps.drop (ps.length / 2))) (by omega) (by omega)
        (fun A hA => by have := (ord_lvOk (k := k) a1 n1 A hA).short; omega) (fun A hA => by have := (ord_lvOk (k := k) a2 n2 A hA).short; omega)
      have lv := lvs_len (k + 1) _ _ a1.inj a2.inj (off_half ha.inj (ps.length / 2))
      have sdl := sd_len soP (ord soP k (ps.take (ps.length / 2))) (ord soP k (ps.drop (ps.length / 2)))
      have ho : ord soP (k + 1) ps = sd soP (ord soP k (ps.take (ps.length / 2))) (ord soP k (ps.drop (ps.length / 2))) ++ (lvs (mrg (k + 1) (ps.take (ps.length / 2)) (ps.drop (ps.length / 2)))).levels.map soP := by rw [ord, if_neg hlt]
      rw [ho]
      generalize sd soP (ord soP k (ps.take (ps.length / 2))) (ord soP k (ps.drop (ps.length / 2))) = A at *
      generalize (lvs (mrg (k + 1) (ps.take (ps.length / 2)) (ps.drop (ps.length / 2)))).levels = V at *
      have ad : ∀ S' : Sto, binop .Add (S ++ [.lst (A.map lvD)]) (.loc S.length) (.lst (V.map fun L => lvD (soP L))) = some (.fl ((A ++ V.map soP).map lvD)) := fun S' => by
        have hh : (S ++ [Cell.lst (A.map lvD)])[S.length]? = some (.lst (A.map lvD)) := by simp
        simp only [binop, tupOf, lsmOf, hh]
        rw [if_pos (by rw [sizeLine_eq, List.length_map, List.length_map]; omega)]
        simp
      have ad := ad []
      simp only [clJ, forX] at s1 s2
      refine run_d h0 (S' := S ++ [.lst (A.map lvD)]) (d := .lst ((A ++ V.map soP).map lvD)) rfl ?_ (fin_val (unders_map fun L _ => fine_under _ (lvD_fine _)) (by simp))
      simp only [B__law_halves, excs, exc, ev, evs, evo, evi, evt, asg, asgs, dOf_d, dOf_fl, tOf_some, Option.bind_some, Option.map_some, Option.bind_none, Option.map_none, bfun, EV.b1, EV.b2, setMany, plOf, seqOf, tupOf, lstOf, lsmOf, truth, cmpop, ltD, EV.i2, List.map_cons, List.map_nil, List.length_cons, List.length_nil, Nat.reduceAdd, Nat.reduceLT, Nat.reduceSub, if_true, if_false, Bool.false_eq_true, List.set_cons_zero, List.set_cons_succ, List.getElem?_cons_succ, List.getElem?_cons_zero, Option.join_some, List.cons_append, List.nil_append, List.replicate, decide_true, decide_false, Bool.not_true, Bool.not_false, reduceCtorEq, len_lst, List.length_map, ltI2, hlt', dv, t1, t2, o1, o2, lzn, Vl.place, s1, s2, m1, v1, ad]
theorem step_minmax (m : List Int) (p : Pr) (hne : p.1 ≠ p.2) {a b : Int} (h1 : m[p.1]? = some a) (h2 : m[p.2]? = some b) : Nw.step ltI m p = (m.set p.1 (if b < a then b else a)).set p.2 (if b > a then b else a) := by
  unfold Nw.step
  rw [h1, h2]
  simp only [ltI, decide_eq_true_eq]
  by_cases h : b < a
  · rw [if_pos h, if_pos h, if_neg (by omega)]
  · rw [if_neg h, if_neg h, Nw.set_same h1]
    by_cases h3 : b > a
    · rw [if_pos h3, Nw.set_same h2]
    · rw [if_neg h3]
      have : a = b := by omega
      subst this
      rw [Nw.set_same h2]
theorem through_run (h0 : pg.defs[x.f F._law_through]? = some (Df__law_through x)) {J : Nat} (hJ : 1 ≤ J) (Ls : List (List Pr)) (l : List Int) (hin : ∀ L ∈ Ls, ∀ p ∈ L, p.1 < l.length ∧ p.2 < l.length ∧ p.1 ≠ p.2) (B : Nat) (S : Sto) :
    run pg J (x.f F._law_through) [.tup (Ls.map lvD), .tup (l.map .int)] B S = some (.lst ((runs ltI Ls.flatten l).map .int), S) := by
  obtain ⟨J, rfl⟩ : ∃ j, J = j + 1 := ⟨J - 1, by omega⟩
  have hst : ∀ m : List Int, (S ++ [Cell.lst (m.map EV.D.int)])[S.length]? = some (.lst (m.map EV.D.int)) := fun m => by simp
  -- one level
  have c1 : ∀ (L : List Pr), (∀ p ∈ L, p.1 < l.length ∧ p.2 < l.length ∧ p.1 ≠ p.2) → ∀ (m : List Int), m.length = l.length → ∀ a b c d : Option EV.D, ∃ ρ' S', forX (clJ pg J) S.length (_law_through_t2 x) (_law_through_b3 x) [] (S ++ [.lst (m.map .int)]) (L.map prD) [some (.tup (Ls.map lvD)), some (.tup (l.map .int)), some (.loc S.length), some (lvD L), a, b, c, d] (S ++ [.lst (m.map .int)]) = some (.nx ρ' S') ∧ ((L.foldl (Nw.step ltI) m).length = l.length ∧ S' = S ++ [.lst ((L.foldl (Nw.step ltI) m).map .int)] ∧ ∃ a b c d, ρ' = [some (.tup (Ls.map lvD)), some (.tup (l.map .int)), some (.loc S.length), some (lvD L), a, b, c, d]) := fun L hL m hm a b c d => by
    refine for_fold (tg := fun d ρ S' => asg (clJ pg J) S.length (_law_through_t2 x) d ρ S') (body := fun ρ S' => excs (clJ pg J) S.length (_law_through_b3 x) ρ S') (ws := []) (S0 := S ++ [.lst (m.map .int)]) prD (Nw.step ltI) (fun (m : List Int) ρ S' => m.length = l.length ∧ S' = S ++ [.lst (m.map .int)] ∧ ∃ a b c d, ρ = [some (.tup (Ls.map lvD)), some (.tup (l.map .int)), some (.loc S.length), some (lvD L), a, b, c, d]) (fun _ _ _ _ => rfl) L m _ _ ⟨hm, rfl, a, b, c, d, rfl⟩ (fun m p ρ S' hp hI => ?_)
    obtain ⟨hm, rfl, a, b, c, d, rfl⟩ := hI
    obtain ⟨h1, h2, hne⟩ := hL p hp
    have g1 : m[p.1]? = some m[p.1] := List.getElem?_eq_getElem (by omega)
    have g2 : m[p.2]? = some m[p.2] := List.getElem?_eq_getElem (by omega)
    have hstep := step_minmax m p hne g1 g2
    generalize m[p.1] = u at g1 hstep
    generalize m[p.2] = v at g2 hstep
    have i1 := itemAt_loc (S := S ++ [.lst (m.map .int)]) (hst m) (i := p.1) (a := .int u) (by rw [List.getElem?_map, g1]; rfl)
    have i2 := itemAt_loc (S := S ++ [.lst (m.map .int)]) (hst m) (i := p.2) (a := .int v) (by rw [List.getElem?_map, g2]; rfl)
    generalize hlo : (if v < u then v else u) = lo at hstep
    generalize hhi : (if v > u then v else u) = hi at hstep
    have s1 := setIx_loc (b := S.length) (S := S ++ [.lst (m.map .int)]) (hst m) (Nat.le_refl _) (i := p.1) (a := .int lo) (by simp; omega)
    have e1 : (S ++ [Cell.lst (m.map EV.D.int)]).set S.length (.lst ((m.map EV.D.int).set p.1 (.int lo))) = S ++ [.lst ((m.set p.1 lo).map EV.D.int)] := by rw [List.set_append_right _ _ (Nat.le_refl _)]; simp [List.map_set]
    rw [e1] at s1
    have s2 := setIx_loc (b := S.length) (S := S ++ [.lst ((m.set p.1 lo).map .int)]) (hst _) (Nat.le_refl _) (i := p.2) (a := .int hi) (by simp; omega)
    have e2 : (S ++ [Cell.lst ((m.set p.1 lo).map EV.D.int)]).set S.length (.lst (((m.set p.1 lo).map EV.D.int).set p.2 (.int hi))) = S ++ [.lst (((m.set p.1 lo).set p.2 hi).map EV.D.int)] := by rw [List.set_append_right _ _ (Nat.le_refl _)]; simp [List.map_set]
    rw [e2] at s2
    refine ⟨_, S ++ [.lst (((m.set p.1 lo).set p.2 hi).map .int)], ?_, ?_, by rw [hstep], some (nI p.1), some (nI p.2), some (.int lo), some (.int hi), rfl⟩
    · simp only [_law_through_t2, _law_through_b3, excs, exc, ev, evs, evo, evi, evt, asg, asgs, dOf_d, dOf_fl, tOf_some, Option.bind_some, Option.map_some, Option.bind_none, Option.map_none, bfun, EV.b1, EV.b2, setMany, plOf, seqOf, tupOf, lstOf, lsmOf, truth, cmpop, ltD, EV.i2, List.map_cons, List.map_nil, List.length_cons, List.length_nil, Nat.reduceAdd, Nat.reduceLT, Nat.reduceSub, if_true, if_false, Bool.false_eq_true, List.set_cons_zero, List.set_cons_succ, List.getElem?_cons_succ, List.getElem?_cons_zero, Option.join_some, List.cons_append, List.nil_append, List.replicate, decide_true, decide_false, Bool.not_true, Bool.not_false, reduceCtorEq, i1, i2, hlo, hhi, s1, s2]
    · rw [step_len, hm]
  have c2 := for_fold (tg := fun d ρ S' => asg (clJ pg J) S.length (_law_through_t1 x) d ρ S') (body := fun ρ S' => excs (clJ pg J) S.length (_law_through_b4 x) ρ S') (ws := []) (S0 := S ++ [.lst (l.map .int)]) lvD (fun m L => L.foldl (Nw.step ltI) m)
    (fun (m : List Int) ρ S' => m.length = l.length ∧ S' = S ++ [.lst (m.map .int)] ∧ ∃ e a b c d, ρ = [some (.tup (Ls.map lvD)), some (.tup (l.map .int)), some (.loc S.length), e, a, b, c, d]) (fun _ _ _ _ => rfl) Ls l
    [some (.tup (Ls.map lvD)), some (.tup (l.map .int)), some (.loc S.length), none, none, none, none, none] (S ++ [.lst (l.map .int)]) ⟨rfl, rfl, none, none, none, none, none, rfl⟩ (fun m L ρ S' hL hI => by
      obtain ⟨hm, rfl, e, a, b, c, d, rfl⟩ := hI
      obtain ⟨ρ', S', h1, h2, rfl, a', b', c', d', rfl⟩ := c1 L (hin L hL) m hm a b c d
      simp only [clJ, forX] at h1
      refine ⟨_, _, ?_, h2, rfl, some (lvD L), a', b', c', d', rfl⟩
      simp only [_law_through_t1, _law_through_b4, excs, exc, ev, evs, evo, evi, evt, asg, asgs, dOf_d, dOf_fl, tOf_some, Option.bind_some, Option.map_some, Option.bind_none, Option.map_none, bfun, EV.b1, EV.b2, setMany, plOf, seqOf, tupOf, lstOf, lsmOf, truth, cmpop, ltD, EV.i2, List.map_cons, List.map_nil, List.length_cons, List.length_nil, Nat.reduceAdd, Nat.reduceLT, Nat.reduceSub, if_true, if_false, Bool.false_eq_true, List.set_cons_zero, List.set_cons_succ, List.getElem?_cons_succ, List.getElem?_cons_zero, Option.join_some, List.cons_append, List.nil_append, List.replicate, decide_true, decide_false, Bool.not_true, Bool.not_false, reduceCtorEq, h1])
  obtain ⟨ρ', S', h1, h2, rfl, e, a, b, c, d, rfl⟩ := c2
  have hf : ∀ (Ls : List (List Pr)) (l : List Int), Ls.foldl (fun m L => L.foldl (Nw.step ltI) m) l = runs ltI Ls.flatten l := fun Ls => by
    induction Ls with
    | nil => intro l; rfl
    | cons L Ls ih => intro l; rw [List.foldl_cons, List.flatten_cons, runs_append', ih]; rfl
  rw [hf] at h1
  have ls : ∀ S : Sto, bLst S (.tup (l.map .int)) = some (.fl (l.map .int)) := fun _ => rfl
  simp only [clJ] at h1
  refine run_d h0 (S' := S ++ [.lst ((runs ltI Ls.flatten l).map .int)]) (d := .loc S.length) rfl ?_ (fin_lst (Nat.le_refl _) (hst _) (unders_map fun a _ => rfl) (by simp))
  simp only [B__law_through, excs, exc, ev, evs, evo, evi, evt, asg, asgs, dOf_d, dOf_fl, tOf_some, Option.bind_some, Option.map_some, Option.bind_none, Option.map_none, bfun, EV.b1, EV.b2, setMany, plOf, seqOf, tupOf, lstOf, lsmOf, truth, cmpop, ltD, EV.i2, List.map_cons, List.map_nil, List.length_cons, List.length_nil, Nat.reduceAdd, Nat.reduceLT, Nat.reduceSub, if_true, if_false, Bool.false_eq_true, List.set_cons_zero, List.set_cons_succ, List.getElem?_cons_succ, List.getElem?_cons_zero, Option.join_some, List.cons_append, List.nil_append, List.replicate, decide_true, decide_false, Bool.not_true, Bool.not_false, reduceCtorEq, ls, Vl.place, h1]
end
end EV
end
section
set_option maxRecDepth 100000
set_option autoImplicit false
namespace EV
open PySem L2
def _law_bag_e1 (x : Ix) : Ex := (.bf .abs (.cons (.var 1) .nil))
def _law_bag_t2 (x : Ix) : Tg := (.nm 1)
def _law_bag_s3 (x : Ix) : Src := (.ex (.sl (.var 0) .no (.so (.cst (.int 63))) .one))
/-- _law_bag -/
def B__law_bag (x : Ix) : Sms := (.cons (.ret (.new (.lst (.cons (.cst (.int 0)) (.cons (.cst (.int 1234567891)) (.cons (.cst (.int 0)) (.cons (.comp (_law_bag_e1 x) [1] (_law_bag_t2 x) (_law_bag_s3 x) .nil) .nil)))))))
  .nil)
abbrev Df__law_bag (x : Ix) : Df := ⟨2, 1, false, B__law_bag x⟩
/-- _law_take -/
def B__law_take (x : Ix) : Sms := (.cons (.iff (.cmp .Eq (.ix (.var 0) (.cst (.int 0))) (.cst (.int 0)))
  (.cons (.set (.nm 4) (.ix (.bin .Add (.sl (.ix (.var 0) (.cst (.int 3))) (.so (.ix (.var 0) (.cst (.int 2)))) .no .one) (.lst (.cons (.cst (.int 0)) .nil))) (.cst (.int 0))))
  (.cons (.augIx (.var 0) (.cst (.int 2)) .Add (.cst (.int 1)))
  (.cons (.iff (.cmp .GtE (.var 4) (.bin .Pow (.cst (.int 10)) (.cst (.int 18))))
  (.cons (.set (.ix (.var 0) (.cst (.int 0))) (.var 4))
  .nil)
  .nil)
  (.cons (.set (.nm 5) (.bin .Add (.bin .Add (.bin .Mult (.ix (.var 0) (.cst (.int 1))) (.cst (.int 48271))) (.bin .Mod (.bf .int (.cons (.var 4) .nil)) (.cst (.int 2147483647)))) (.bin .Mult (.cst (.int 7919)) (.ix (.var 0) (.cst (.int 2))))))
  (.cons (.set (.ix (.var 0) (.cst (.int 1))) (.bin .Mod (.bf .int (.cons (.var 5) .nil)) (.cst (.int 2147483647))))
  .nil)))))
  .nil)
  (.cons (.iff (.cmp .Gt (.ix (.var 0) (.cst (.int 0))) (.cst (.int 0)))
  (.cons (.set (.nm 6) (.bin .Mod (.bf .int (.cons (.ix (.var 0) (.cst (.int 0))) .nil)) (.var 1)))
  (.cons (.set (.ix (.var 0) (.cst (.int 0))) (.bin .FloorDiv (.bf .int (.cons (.ix (.var 0) (.cst (.int 0))) .nil)) (.var 1)))
  (.cons (.ret (.var 6))
  .nil)))
  .nil)
  (.cons (.set (.nm 2) (.bin .Mod (.bf .int (.cons (.bin .Mult (.bin .Add (.ix (.var 0) (.cst (.int 1))) (.cst (.int 1))) (.cst (.int 39373))) .nil)) (.cst (.int 1000000007))))
  (.cons (.set (.nm 3) (.bin .Mod (.bf .int (.cons (.bin .Mult (.bin .Mod (.bf .int (.cons (.bin .Mult (.var 2) (.var 2)) .nil)) (.cst (.int 998244353))) (.cst (.int 30011))) .nil)) (.cst (.int 998244353))))
  (.cons (.ret (.bin .Mod (.bf .int (.cons (.bin .FloorDiv (.var 3) (.cst (.int 7))) .nil)) (.var 1)))
  .nil)))))
abbrev Df__law_take (x : Ix) : Df := ⟨7, 2, true, B__law_take x⟩
/-- _law_some -/
def B__law_some (x : Ix) : Sms := (.cons (.ret (.ix (.var 1) (.call (x.f F._law_take) (.cons (.var 0) (.cons (.bf .len (.cons (.var 1) .nil)) .nil)))))
  .nil)
abbrev Df__law_some (x : Ix) : Df := ⟨2, 2, true, B__law_some x⟩
def _law_alike_c1 (x : Ix) : Ex := (.cmp .Lt (.var 3) (.bf .len (.cons (.var 2) .nil)))
def _law_alike_b2 (x : Ix) : Sms := (.cons (.set (.tup (.cons (.nm 4) (.cons (.nm 5) .nil))) (.ix (.var 2) (.var 3)))
  (.cons (.aug 3 .Add (.cst (.int 1)))
  (.cons (.iff (.or (.cmp .NotEq (.bf .isinst (.cons (.var 4) (.cons (.cst (.ty "bool")) .nil))) (.bf .isinst (.cons (.var 5) (.cons (.cst (.ty "bool")) .nil)))) (.cmp .NotEq (.bf .isinst (.cons (.var 4) (.cons (.cst (.ty "str")) .nil))) (.bf .isinst (.cons (.var 5) (.cons (.cst (.ty "str")) .nil)))))
  (.cons (.ret (.cst (.bl false)))
  .nil)
  .nil)
  (.cons (.iff (.cmp .NotEq (.bf .isinst (.cons (.var 4) (.cons (.tup (.cons (.cst (.ty "tuple")) (.cons (.cst (.ty "list")) .nil))) .nil))) (.bf .isinst (.cons (.var 5) (.cons (.tup (.cons (.cst (.ty "tuple")) (.cons (.cst (.ty "list")) .nil))) .nil))))
  (.cons (.ret (.cst (.bl false)))
  .nil)
  .nil)
  (.cons (.iff (.bf .isinst (.cons (.var 4) (.cons (.tup (.cons (.cst (.ty "tuple")) (.cons (.cst (.ty "list")) .nil))) .nil)))
  (.cons (.iff (.or (.cmp .NotEq (.bf .isinst (.cons (.var 4) (.cons (.cst (.ty "tuple")) .nil))) (.bf .isinst (.cons (.var 5) (.cons (.cst (.ty "tuple")) .nil)))) (.cmp .NotEq (.bf .len (.cons (.var 4) .nil)) (.bf .len (.cons (.var 5) .nil))))
  (.cons (.ret (.cst (.bl false)))
  .nil)
  .nil)
  (.cons (.ex (.bm .extend (.var 2) (.cons (.bfi .list (.zip (.cons (.var 4) (.cons (.var 5) .nil)))) .nil)))
  .nil))
  (.cons (.iff (.cmp .NotEq (.var 4) (.var 5))
  (.cons (.ret (.cst (.bl false)))
  .nil)
  .nil)
  .nil))
  .nil)))))
/-- _law_alike -/
def B__law_alike (x : Ix) : Sms := (.cons (.par [2, 3] (.cons (.new (.lst (.cons (.tup (.cons (.var 0) (.cons (.var 1) .nil))) .nil))) (.cons (.cst (.int 0)) .nil)))
  (.cons (.whl (_law_alike_c1 x)
  (_law_alike_b2 x))
  (.cons (.ret (.cst (.bl true)))
  .nil)))
abbrev Df__law_alike (x : Ix) : Df := ⟨6, 2, true, B__law_alike x⟩
end EV
end
section
set_option maxRecDepth 100000
set_option autoImplicit false
set_option maxHeartbeats 8000000
/-! law k70, walked -/
namespace EV
open PySem L2 Nw
structure HlpFns (pg : Pg) (x : Ix) : Prop where
  bag : pg.defs[x.f F._law_bag]? = some (Df__law_bag x)
  take : pg.defs[x.f F._law_take]? = some (Df__law_take x)
  some_ : pg.defs[x.f F._law_some]? = some (Df__law_some x)
  alike : pg.defs[x.f F._law_alike]? = some (Df__law_alike x)
section
variable {pg : Pg} {x : Ix}
theorem alike_ok (h : pg.defs[x.f F._law_alike]? = some (Df__law_alike x)) {J : Nat} (hJ : 1 ≤ J) {d : EV.D} (ha : Alk d d) (hs : dSize d < 1000000) (B : Nat) (S : Sto) : run pg J (x.f F._law_alike) [d, d] B S = some (.bl true, S) := by
  obtain ⟨J, rfl⟩ : ∃ j, J = j + 1 := ⟨J - 1, by omega⟩
  exact alike_run h J B ha hs
theorem take_ok (h : pg.defs[x.f F._law_take]? = some (Df__law_take x)) {J : Nat} (hJ : 1 ≤ J) (B : Nat) {S : Sto} {n : Nat} {k m : Int} (hb : Bag S n k) (hk : k < 999999) (hm : 0 < m ∧ m < 1073741824) :
    ∃ v S', 0 ≤ v ∧ v < m ∧ run pg J (x.f F._law_take) [.loc n, .int m] B S = some (.int v, S') ∧ Bag S' n (k + 1) ∧ S'.length = S.length ∧ ∀ i, i ≠ n → S'[i]? = S[i]? := by
  obtain ⟨J, rfl⟩ : ∃ j, J = j + 1 := ⟨J - 1, by omega⟩
  exact take_run h J B hb hk hm.1 hm.2
/-- a drawn number, as Nat -/
theorem take_nat (h : pg.defs[x.f F._law_take]? = some (Df__law_take x)) {J : Nat} (hJ : 1 ≤ J) (B : Nat) {S : Sto} {n : Nat} {k : Int} (m : Nat) (hb : Bag S n k) (hk : k < 999999) (hm : 0 < m ∧ m < 1073741824) :
    ∃ v S', v < m ∧ run pg J (x.f F._law_take) [.loc n, nI m] B S = some (nI v, S') ∧ Bag S' n (k + 1) ∧ S'.length = S.length ∧ ∀ i, i ≠ n → S'[i]? = S[i]? := by
  obtain ⟨v, S', h1, h2, h3, h4⟩ := take_ok h hJ B hb hk (m := (m : Int)) (by omega)
  obtain ⟨w, rfl⟩ : ∃ w : Nat, v = w := ⟨v.toNat, by omega⟩
  exact ⟨w, S', by omega, h3, h4⟩
theorem some_ok (H : HlpFns pg x) {J : Nat} (hJ : 2 ≤ J) (B : Nat) {S : Sto} {n : Nat} {k : Int} (hb : Bag S n k) (hk : k < 999999) {t : EV.D} {xs : List EV.D} (ht : t = .lst xs ∨ t = .tup xs) (hne : xs ≠ []) (hl : xs.length < 1000000) (hu : ∀ x ∈ xs, x.under S.length = true) :
    ∃ d S', d ∈ xs ∧ run pg J (x.f F._law_some) [.loc n, t] B S = some (d, S') ∧ Bag S' n (k + 1) ∧ S'.length = S.length ∧ ∀ i, i ≠ n → S'[i]? = S[i]? := by
  obtain ⟨J, rfl⟩ : ∃ j, J = j + 2 := ⟨J - 2, by omega⟩
  exact some_run (T := x.f F._law_take) H.some_ H.take J B hb hk ht hne hl hu
theorem bag_ok (h : pg.defs[x.f F._law_bag]? = some (Df__law_bag x)) {J : Nat} (hJ : 1 ≤ J) (B : Nat) (ns : List Int) (hn : ns.length ≤ 63) (S : Sto) :
    ∃ S', run pg J (x.f F._law_bag) [.slst (ns.map .int)] B S = some (.loc S.length, S') ∧ S'.length = S.length + 1 ∧ Bag S' S.length 0 ∧ ∀ i, i < S.length → S'[i]? = S[i]? := by
  obtain ⟨J, rfl⟩ : ∃ j, J = j + 1 := ⟨J - 1, by omega⟩
  obtain ⟨xs, h1, h2⟩ := bag_run h J B ns hn S
  refine ⟨_, h1, by simp, ⟨0, 1234567891, 0, xs, by simp [BagAt], by decide, by decide, by decide, by decide, by decide, h2⟩, fun i hi => by rw [List.getElem?_append_left hi]⟩
theorem dSizes_le {α : Type} {f : α → EV.D} {c : Nat} : ∀ {xs : List α}, (∀ a ∈ xs, dSize (f a) ≤ c) → dSizes (xs.map f) ≤ c * xs.length
  | [], _ => by simp [dSizes]
  | a :: xs, h => by
    have h1 := h a (List.mem_cons_self ..)
    have h2 := dSizes_le (f := f) (c := c) (xs := xs) fun b hb => h b (List.mem_cons_of_mem _ hb)
    simp only [List.map_cons, dSizes, List.length_cons, Nat.mul_add]
    omega
theorem lvD_size (L : List Pr) : dSize (lvD L) ≤ 1 + 3 * L.length := by
  show 1 + dSizes (L.map prD) ≤ _
  have := dSizes_le (f := prD) (c := 3) (xs := L) fun p _ => by simp [dSize, dSizes]
  omega
end
/-- the network of n places, as both make it -/
def netOf (n : Nat) : List (List Pr) := ord soP 7 (List.range n)
theorem netOf_ok {n : Nat} (hn : n ≤ 128) : ∀ L ∈ netOf n, LvOk n L := ord_lvOk (asc_range n) fun a h => List.mem_range.1 h
theorem netOf_len (n : Nat) : (netOf n).length ≤ 56 := ord_len 7 (List.range n) (asc_range n).inj
theorem netOf_size {n : Nat} (hn : n ≤ 128) : dSize (.tup ((netOf n).map lvD)) < 1000000 := by
  show 1 + dSizes ((netOf n).map lvD) < _
  have h1 := dSizes_le (f := lvD) (c := 200) (xs := netOf n) fun L hL => by
    have := lvD_size L
    have := (netOf_ok hn L hL).short
    omega
  have := netOf_len n
  omega
theorem flat_le {n c : Nat} : ∀ {Ls : List (List Pr)}, (∀ L ∈ Ls, L.length ≤ c) → Ls.flatten.length ≤ c * Ls.length
  | [], _ => by simp
  | L :: Ls, h => by
    have h1 := h L (List.mem_cons_self ..)
    have h2 := flat_le (n := n) (c := c) (Ls := Ls) fun M hM => h M (List.mem_cons_of_mem _ hM)
    simp only [List.flatten_cons, List.length_append, List.length_cons, Nat.mul_add]
    omega
theorem netOf_flat {n : Nat} (hn : n ≤ 128) : (netOf n).flatten.length ≤ 64 * 56 := by
  have h1 := flat_le (n := n) (c := 64) (Ls := netOf n) fun L hL => by
    have := (netOf_ok hn L hL).short
    omega
  have := netOf_len n
  omega
theorem tup_size {α : Type} {f : α → EV.D} {xs : List α} {c : Nat} (h : ∀ a ∈ xs, dSize (f a) ≤ c) : dSize (.tup (xs.map f)) ≤ 1 + c * xs.length := by
  have := dSizes_le (f := f) (c := c) (xs := xs) h
  show 1 + dSizes (xs.map f) ≤ _
  omega
end EV
end
section
set_option maxRecDepth 100000
set_option autoImplicit false
set_option maxHeartbeats 8000000
/-! law k70: its loops over rows -/
namespace EV
open PySem L2 Nw
structure K70Fns (pg : Pg) (x : Ix) : Prop where
  form : NetForm pg x
  done : NetDone pg x
  make : NetMake pg x
  lnet : LawNet pg x
  hlp : HlpFns pg x
  pairs_of : pg.defs[x.f F.pairs_of]? = some (Df_pairs_of x)
  order_cost : pg.defs[x.f F.order_cost]? = some (Df_order_cost x)
  neighbours : pg.defs[x.f F.neighbours]? = some (Df_neighbours x)
  halves : pg.defs[x.f F._law_halves]? = some (Df__law_halves x)
  through : pg.defs[x.f F._law_through]? = some (Df__law_through x)
abbrev rowD (r : List Int) : EV.D := .tup (r.map .int)
def srt (r : List Int) : List Int := r.mergeSort fun a b => decide (a ≤ b)
theorem srt_len (r : List Int) : (srt r).length = r.length := List.length_mergeSort r
theorem row_size (r : List Int) : dSize (rowD r) ≤ 1 + r.length := by
  have := tup_size (f := EV.D.int) (xs := r) (c := 1) fun a _ => by simp [dSize]
  show dSize (.tup (r.map .int)) ≤ _
  omega
theorem row_fine (r : List Int) : D.fine 1 (rowD r) = true := by
  show D.fines 0 (r.map .int) = true
  exact fines_map fun a _ => rfl
theorem row_sort (S : Sto) (r : List Int) (h : r.length ≤ 1000) : bSort S (rowD r) = some (.fl ((srt r).map .int)) := by
  show (sortD (r.map .int)).map Vl.fl = _
  rw [sortD_ints r (by rw [sizeLine_eq]; omega)]
  rfl
section
variable {pg : Pg} {x : Ix}
theorem net_done (H : K70Fns pg x) {J : Nat} (hJ : 2 ≤ J) {n : Nat} (hn : n ≤ 128) (r : List Int) (hr : r.length = n) (B : Nat) (S : Sto) : run pg J (x.f F.done) [.tup ((netOf n).map lvD), rowD r] B S = some (rowD (srt r), S) := by
  rw [done_run H.done hJ encI (netOf n) r (fun L hL p hp => by have := (netOf_ok hn L hL).lt p hp; omega) _ _ (.inl rfl) (.inr rfl)]
  have := ord_sorts ordI antiI (fun L => soP_perm L) 7 r (by omega)
  rw [hr, leI] at this
  show some (EV.D.tup ((runs ltI (ord soP 7 (List.range n)).flatten r).map .int), S) = _
  rw [this]
  rfl
theorem lev_done (H : K70Fns pg x) {J : Nat} (hJ : 2 ≤ J) {n : Nat} (hn : n ≤ 128) (r : List Int) (hr : r.length = n) (B : Nat) (S : Sto) : run pg J (x.f F.done) [.tup ((lvs (netOf n).flatten).levels.map fun L => lvD (soP L)), rowD r] B S = some (rowD (srt r), S) := by
  have hm : (lvs (netOf n).flatten).levels.map (fun L => lvD (soP L)) = ((lvs (netOf n).flatten).levels.map soP).map lvD := by rw [List.map_map]; rfl
  rw [hm, done_run H.done hJ encI ((lvs (netOf n).flatten).levels.map soP) r (fun L hL p hp => by
    obtain ⟨M, hM, rfl⟩ := List.mem_map.1 hL
    obtain ⟨K, hK, hpK⟩ := List.mem_flatten.1 (lvs_mem _ M hM p ((soP_perm M).mem_iff.2 hp))
    have := (netOf_ok hn K hK).lt p hpK
    omega) _ _ (.inl rfl) (.inr rfl)]
  have := lvs_sorts ordI antiI (fun L => soP_perm L) 7 r (by omega)
  rw [hr, leI] at this
  show some (EV.D.tup ((runs ltI ((lvs (ord soP 7 (List.range n)).flatten).levels.map soP).flatten r).map .int), S) = _
  rw [this]
  rfl
/-- the first loop over the rows -/
theorem rows1 (H : K70Fns pg x) {J b q : Nat} (hJ : 3 ≤ J) {n : Nat} (hn : n ≤ 128) (S : Sto) (rs : List (List Int)) (hrs : ∀ r ∈ rs, r.length = n) (v0 v1 v2 v3 v6 r8 r9 r10 r11 r12 r13 r14 r15 r16 : Option EV.D) :
    ∃ r8', forX (clJ pg J) b (law_t8 x) (law_b9 x) [q] S (rs.map rowD) [v0, v1, v2, v3, some (.tup ((netOf n).map lvD)), some (.tup ((netOf n).flatten.map prD)), v6, some (.loc q), r8, r9, r10, r11, r12, r13, r14, r15, r16] S =
      some (.nx [v0, v1, v2, v3, some (.tup ((netOf n).map lvD)), some (.tup ((netOf n).flatten.map prD)), v6, some (.loc q), r8', r9, r10, r11, r12, r13, r14, r15, r16] S) := by
  have c := for_fold (tg := fun d ρ S' => asg (clJ pg J) b (law_t8 x) d ρ S') (body := fun ρ S' => excs (clJ pg J) b (law_b9 x) ρ S') (ws := [q]) (S0 := S) rowD (fun (_ : Unit) _ => ())
    (fun _ ρ S' => S' = S ∧ ∃ r8, ρ = [v0, v1, v2, v3, some (.tup ((netOf n).map lvD)), some (.tup ((netOf n).flatten.map prD)), v6, some (.loc q), r8, r9, r10, r11, r12, r13, r14, r15, r16]) (fun _ _ _ h => h.1 ▸ stay_self) rs () _ S ⟨rfl, r8, rfl⟩ (fun _ r ρ S' hr hI => by
      obtain ⟨rfl, r8, rfl⟩ := hI
      have hl := hrs r hr
      have d1 := fun B S => net_done H (J := J) (by omega) hn r hl B S
      have d2 := fun B S => lev_done H (J := J) (by omega) hn r hl B S
      have d3 := fun B S => levelled_run H.make.levelled (J := J) (by omega) (netOf n).flatten (by have := netOf_flat hn; omega) _ (.inr rfl) B S
      have s1 := fun S => row_sort S r (by omega)
      have z1 : lz [EV.D.tup ((srt r).map .int)] = some (.fl [rowD (srt r)]) := lz_ok (by rw [sizeLine_eq]; simp)
      have z2 : lz [rowD (srt r), rowD (srt r)] = some (.fl [rowD (srt r), rowD (srt r)]) := lz_ok (by rw [sizeLine_eq]; simp)
      have m2 : ∀ S : Sto, binop .Mult S (.lst [rowD (srt r)]) (.int 2) = some (.fl [rowD (srt r), rowD (srt r)]) := fun S => by
        simp only [binop, tupOf, lsmOf]
        rw [if_pos ⟨by decide, by decide, by rw [sizeLine_eq]; simp⟩]
        rfl
      have al := fun B S => alike_ok H.hlp.alike (J := J) (by omega) (d := .lst [rowD (srt r), rowD (srt r)]) (alk_fine (n := 2) (by show D.fines 1 _ = true; simp [D.fines, row_fine])) (by
        have := row_size (srt r)
        rw [srt_len, hl] at this
        simp only [dSize, dSizes] at this ⊢
        omega) B S
      refine ⟨_, _, ?_, rfl, some (rowD r), rfl⟩
      simp only [law_t8, law_b9, excs, exc, ev, evs, evo, evi, evt, asg, asgs, dOf_d, dOf_fl, tOf_some, Option.bind_some, Option.map_some, Option.bind_none, Option.map_none, bfun, EV.b1, EV.b2, setMany, plOf, seqOf, tupOf, lstOf, lsmOf, truth, cmpop, ltD, EV.i2, List.map_cons, List.map_nil, List.length_cons, List.length_nil, Nat.reduceAdd, Nat.reduceLT, Nat.reduceSub, if_true, if_false, Bool.false_eq_true, List.set_cons_zero, List.set_cons_succ, List.getElem?_cons_succ, List.getElem?_cons_zero, Option.join_some, List.cons_append, List.nil_append, List.replicate, decide_true, decide_false, Bool.not_true, Bool.not_false, reduceCtorEq, d1, d2, d3, s1, tup_lst, z1, z2, m2, al])
  obtain ⟨ρ', S', h1, rfl, r8', rfl⟩ := c
  exact ⟨r8', h1⟩
/-- the second loop over the rows -/
theorem rows2 (H : K70Fns pg x) {J b q : Nat} (hJ : 3 ≤ J) {n : Nat} (hn : n ≤ 128) (S : Sto) (rs : List (List Int)) (hrs : ∀ r ∈ rs, r.length = n) (v0 v1 v2 v3 v4 v5 v6 r8 r9 r10 r12 r13 r14 r15 r16 : Option EV.D) :
    ∃ r8', forX (clJ pg J) b (law_t3 x) (law_b4 x) [q] S (rs.map rowD) [v0, v1, v2, v3, v4, v5, v6, some (.loc q), r8, r9, r10, some (.tup ((netOf n).dropLast.map lvD)), r12, r13, r14, r15, r16] S =
      some (.nx [v0, v1, v2, v3, v4, v5, v6, some (.loc q), r8', r9, r10, some (.tup ((netOf n).dropLast.map lvD)), r12, r13, r14, r15, r16] S) := by
  have c := for_fold (tg := fun d ρ S' => asg (clJ pg J) b (law_t3 x) d ρ S') (body := fun ρ S' => excs (clJ pg J) b (law_b4 x) ρ S') (ws := [q]) (S0 := S) rowD (fun (_ : Unit) _ => ())
    (fun _ ρ S' => S' = S ∧ ∃ r8, ρ = [v0, v1, v2, v3, v4, v5, v6, some (.loc q), r8, r9, r10, some (.tup ((netOf n).dropLast.map lvD)), r12, r13, r14, r15, r16]) (fun _ _ _ h => h.1 ▸ stay_self) rs () _ S ⟨rfl, r8, rfl⟩ (fun _ r ρ S' hr hI => by
      obtain ⟨rfl, r8, rfl⟩ := hI
      have hl := hrs r hr
      have hin : ∀ L ∈ (netOf n).dropLast, ∀ p ∈ L, p.1 < r.length ∧ p.2 < r.length ∧ p.1 ≠ p.2 := fun L hL p hp => by
        have := (netOf_ok hn L ((List.dropLast_sublist _).subset hL)).lt p hp
        omega
      have d1 := fun B S => done_run H.done (J := J) (by omega) encI (netOf n).dropLast r (fun L hL p hp => by have := hin L hL p hp; omega) _ _ (.inl rfl) (.inr rfl) B S
      have d2 := fun B S => through_run H.through (J := J) (by omega) (netOf n).dropLast r hin B S
      have hrl := runs_len (lt := ltI) (netOf n).dropLast.flatten r
      generalize runs ltI (netOf n).dropLast.flatten r = r' at *
      have al := fun B S => alike_ok H.hlp.alike (J := J) (by omega) (d := rowD r') (alk_fine (n := 1) (row_fine _)) (by
        have := row_size r'
        omega) B S
      refine ⟨_, _, ?_, rfl, some (rowD r), rfl⟩
      simp only [law_t3, law_b4, excs, exc, ev, evs, evo, evi, evt, asg, asgs, dOf_d, dOf_fl, tOf_some, Option.bind_some, Option.map_some, Option.bind_none, Option.map_none, bfun, EV.b1, EV.b2, setMany, plOf, seqOf, tupOf, lstOf, lsmOf, truth, cmpop, ltD, EV.i2, List.map_cons, List.map_nil, List.length_cons, List.length_nil, Nat.reduceAdd, Nat.reduceLT, Nat.reduceSub, if_true, if_false, Bool.false_eq_true, List.set_cons_zero, List.set_cons_succ, List.getElem?_cons_succ, List.getElem?_cons_zero, Option.join_some, List.cons_append, List.nil_append, List.replicate, decide_true, decide_false, Bool.not_true, Bool.not_false, reduceCtorEq, d1, d2, tup_lst, al])
  obtain ⟨ρ', S', h1, rfl, r8', rfl⟩ := c
  exact ⟨r8', h1⟩
end
end EV
end
section
set_option maxRecDepth 100000
set_option autoImplicit false
set_option maxHeartbeats 16000000
/-! law k70: a turn -/
namespace EV
open PySem L2 Nw
/-- a row made from a range -/
abbrev mkRow (n : Nat) (f : Nat → Int) : List Int := (List.range n).map f
theorem enumD_eq : ∀ (xs : List EV.D) (i : Int), enumD i xs = (List.range xs.length).map fun j : Nat => EV.D.tup [.int (i + (j : Int)), xs[j]?.getD .non]
  | [], i => rfl
  | d :: ds, i => by
    rw [enumD, enumD_eq ds (i + 1), List.length_cons, List.range_succ_eq_map]
    simp only [List.map_cons, List.map_map]
    congr 1
    · simp
    · refine List.map_congr_left fun j _ => ?_
      simp only [Function.comp, Nat.succ_eq_add_one, List.getElem?_cons_succ, Int.natCast_add]
      congr 3
      omega
theorem Bag.same {S S' : Sto} {n : Nat} {k : Int} (h : Bag S n k) (e : S'[n]? = S[n]?) : Bag S' n k := by
  obtain ⟨a, b, c, xs, h1, h2⟩ := h.ex
  exact ⟨a, b, c, xs, by unfold BagAt at *; rw [e]; exact h1, h2⟩
def rowsOf (r : List Int) : List (Int × Int) := (List.range r.length).map fun j : Nat => (r[j]?.getD 0, (j : Int))
theorem rows_sort (S : Sto) (ps : List (Int × Int)) (h : ps.length ≤ 1000) : bSort S (.tup (ps.map pI)) = some (.fl ((ps.mergeSort pairLe).map pI)) := by
  show (sortD (ps.map pairD)).map Vl.fl = _
  rw [sortD_pairs ps (by rw [sizeLine_eq]; omega)]
  rfl
section
variable {pg : Pg} {x : Ix}
/-- a row comprehension of the law over range(many) -/
theorem row_comp {J b : Nat} {t : Tg} {e : Ex} {S : Sto} {ρ : En} {n : Nat} (f : Nat → Int) (hn : n ≤ 1000) (h : ∀ i < n, ∃ ρ', asg (clJ pg J) b t (nI i) ρ S = some (ρ', S) ∧ dOf (ev (clJ pg J) b e ρ' S) = some (.int (f i), S)) :
    compT (clJ pg J) b t e [] S ρ ((List.range n).map nI) [] S = some ((mkRow n f).map .int, S) := by
  have := comp_map (tg := fun d ρ S' => asg (clJ pg J) b t d ρ S') (tst := fun _ S => some (true, S)) (elt := fun ρ S' => dOf (ev (clJ pg J) b e ρ S')) (ws := []) (ρ := ρ) (S0 := S) (S := S) nI (fun i => .int (f i)) rfl (List.range n) [] (fun i hi => by
    obtain ⟨ρ', h1, h2⟩ := h i (List.mem_range.1 hi)
    exact ⟨ρ', h1, rfl, h2⟩) (by rw [sizeLine_eq]; simp; omega)
  rw [List.nil_append] at this
  refine this.trans ?_
  rw [mkRow, List.map_map]
  rfl
theorem turn_run (H : K70Fns pg x) {J : Nat} (hJ : 30 ≤ J) (S : Sto) {k : Int} (hb : Bag S 0 k) (hk : k < 1000) (v0 v2 r3 r4 r5 r6 r7 r8 r9 r10 r11 r12 r13 r14 r15 r16 : Option EV.D) :
    ∃ S' y3 y4 y5 y6 y7 y8 y9 y10 y11 y12 y13 y14 y15 y16, Bag S' 0 (k + 10) ∧ excs (clJ pg J) 0 (law_b24 x) [v0, some (.loc 0), v2, r3, r4, r5, r6, r7, r8, r9, r10, r11, r12, r13, r14, r15, r16] S = some (.nx [v0, some (.loc 0), v2, y3, y4, y5, y6, y7, y8, y9, y10, y11, y12, y13, y14, y15, y16] S') := by
  have hpos : 0 < S.length := by
    obtain ⟨a, b, c, xs, h, _⟩ := hb.ex
    exact (List.getElem?_eq_some_iff.mp h).1
  obtain ⟨d1, S1, a1, a2, a3, a4, a5⟩ := take_nat H.hlp.take (J := J) (by omega) 0 (n := 0) 128 hb (by omega) (by omega)
  obtain ⟨d2, S2, b1, b2, b3, b4, b5⟩ := take_nat H.hlp.take (J := J) (by omega) 0 (n := 0) 128 a3 (by omega) (by omega)
  obtain ⟨md, S3, c1, c2, c3, c4, c5⟩ := some_ok H.hlp (J := J) (by omega) 0 (n := 0) b3 (by omega) (t := .lst [.int 64, .int 127, .int 128, nI (1 + d1), nI (1 + d2)]) (.inl rfl) (by simp) (by simp) (by simp [EV.D.under])
  obtain ⟨n, hn1, hn, rfl⟩ : ∃ n : Nat, 1 ≤ n ∧ n ≤ 128 ∧ md = nI n := by
    simp only [List.mem_cons, List.not_mem_nil, or_false] at c1
    rcases c1 with rfl | rfl | rfl | rfl | rfl
    · exact ⟨64, by omega, by omega, rfl⟩
    · exact ⟨127, by omega, by omega, rfl⟩
    · exact ⟨128, by omega, by omega, rfl⟩
    · exact ⟨1 + d1, by omega, by omega, rfl⟩
    · exact ⟨1 + d2, by omega, by omega, rfl⟩
  have lz5 : ∀ a b c d e : EV.D, lz [a, b, c, d, e] = some (.fl [a, b, c, d, e]) := fun a b c d e => lz_ok (by rw [sizeLine_eq]; simp)
  have ad1 : ∀ (S : Sto) (d : Nat), binop .Add S (.int 1) (.int (d : Int)) = some (.d (nI (1 + d))) := fun S d => by rw [add_int]; simp
  have n128 : nI 128 = .int 128 := rfl
  rw [n128] at a2 b2
  -- the network
  have e1 := fun B S => odd_even_run H.make (k := 7) (n := n) (by omega) (by omega) (J := J) (by omega) B S
  have e2 := fun B S => halves_run H.halves H.lnet (N := n) (by omega) 7 (by omega) (List.range n) (by simp; omega) (by simp; omega) (asc_range n) (fun a h => List.mem_range.1 h) (J := J) (by omega) B S
  have e3 := fun B S => is_network_run (x := x) H.form (J := J) (by omega) n (netOf n) (netOf_ok hn) (by have := netOf_len n; omega) (by omega) B S
  have e4 := fun B S => pairs_of_run H.pairs_of (J := J) (by omega) (netOf n) (by have := netOf_flat hn; omega) B S
  have e5 := fun B S => order_cost_run H.make H.order_cost (k := 7) (n := n) (by omega) (by omega) hn1 (J := J) (by omega) B S
  change ∀ B S, run pg J (x.f F.odd_even) [nI n] B S = some (.tup ((netOf n).map lvD), S) at e1
  change ∀ B S, run pg J (x.f F._law_halves) [.lst ((List.range n).map nI)] B S = some (.lst ((netOf n).map lvD), S) at e2
  change ∀ B S, run pg J (x.f F.order_cost) [nI n] B S = some (.tup [nI (netOf n).length, nI (n * (netOf n).length), nI (n * (netOf n).length), nI (netOf n).flatten.length], S) at e5
  have al1 := fun B S => alike_ok H.hlp.alike (J := J) (by omega) (d := .tup ((netOf n).map lvD)) (alk_fine (netD_fine _)) (netOf_size hn) B S
  have al2 := fun B S => alike_ok H.hlp.alike (J := J) (by omega) (d := .bl true) (.bl true) (by simp [dSize]) B S
  have al3 := fun B S => alike_ok H.hlp.alike (J := J) (by omega) (d := .tup [nI (netOf n).length, nI (n * (netOf n).length), nI (n * (netOf n).length), nI (netOf n).flatten.length]) (alk_fine (n := 1) rfl) (by simp [dSize, dSizes]) B S
  have s23 : ∀ (S' : Sto) (r5 r6 r7 r8 r9 r10 r11 r12 r13 r14 r15 r16 : Option EV.D), evi (clJ pg J) 0 (law_s23 x) [v0, some (.loc 0), v2, some (nI n), some (.tup ((netOf n).map lvD)), r5, r6, r7, r8, r9, r10, r11, r12, r13, r14, r15, r16] S' = some (((List.range n).map nI, []), S') := fun S' r5 r6 r7 r8 r9 r10 r11 r12 r13 r14 r15 r16 => by
    refine rng1 ?_ (by omega)
    simp only [excs, exc, ev, evs, evo, evi, evt, asg, asgs, dOf_d, dOf_fl, tOf_some, Option.bind_some, Option.map_some, Option.bind_none, Option.map_none, bfun, EV.b1, EV.b2, setMany, plOf, seqOf, tupOf, lstOf, lsmOf, truth, cmpop, ltD, EV.i2, List.map_cons, List.map_nil, List.length_cons, List.length_nil, Nat.reduceAdd, Nat.reduceLT, Nat.reduceSub, if_true, if_false, Bool.false_eq_true, List.set_cons_zero, List.set_cons_succ, List.getElem?_cons_succ, List.getElem?_cons_zero, Option.join_some, List.cons_append, List.nil_append, List.replicate, decide_true, decide_false, Bool.not_true, Bool.not_false, reduceCtorEq]
  have lzr : lz ((List.range n).map nI) = some (.fl ((List.range n).map nI)) := lz_ok (by rw [sizeLine_eq]; simp; omega)
  have ml : ∀ S : Sto, binop .Mult S (nI n) (.int ((netOf n).length : Int)) = some (.d (nI (n * (netOf n).length))) := fun S => by
    have := netOf_len n
    rw [mul_int ⟨by omega, by omega⟩ ⟨by omega, by omega⟩]
    simp
  have tz4 : ∀ a b c d : EV.D, tz [a, b, c, d] = some (.d (.tup [a, b, c, d])) := fun a b c d => tz_ok (by rw [sizeLine_eq]; simp)
  have tz3 : ∀ a b c : EV.D, tz [a, b, c] = some (.d (.tup [a, b, c])) := fun a b c => tz_ok (by rw [sizeLine_eq]; simp)
  have tz2 : ∀ a b : EV.D, tz [a, b] = some (.d (.tup [a, b])) := fun a b => tz_ok (by rw [sizeLine_eq]; simp)
  have lz2 : ∀ a b : EV.D, lz [a, b] = some (.fl [a, b]) := fun a b => lz_ok (by rw [sizeLine_eq]; simp)
  -- three draws
  obtain ⟨u, S4, f1, f2, f3, f4, f5⟩ := take_nat H.hlp.take (J := J) (by omega) 0 (n := 0) 64 c3 (by omega) (by omega)
  obtain ⟨g, S5, g1, g2, g3, g4, g5⟩ := take_nat H.hlp.take (J := J) (by omega) 0 (n := 0) n f3 (by omega) (by omega)
  obtain ⟨w, S6, h1, h2, h3, h4, h5⟩ := take_nat H.hlp.take (J := J) (by omega) 0 (n := 0) (n + 1) g3 (by omega) (by omega)
  have n64 : nI 64 = .int 64 := rfl
  rw [n64] at f2
  have m2u : ∀ S : Sto, binop .Mult S (.int 2) (nI u) = some (.d (.int (2 * (u : Int)))) := fun S => mul_int ⟨by omega, by omega⟩ ⟨by omega, by omega⟩
  have nn1 : ∀ S : Sto, binop .Add S (nI n) (.int 1) = some (.d (nI (n + 1))) := fun S => by rw [add_int]; simp
  have a2u : ∀ S : Sto, binop .Add S (.int 1) (.int (2 * (u : Int))) = some (.d (.int (1 + 2 * (u : Int)))) := fun S => rfl
  generalize hst : (1 + 2 * (u : Int)) = st at a2u
  have hst2 : 0 ≤ st ∧ st < 128 := by omega
  -- the rows
  have srcs : ∀ (S' : Sto) (r5 r6 r7 r8 r9 r10 r11 r15 r16 : Option EV.D), evi (clJ pg J) 0 (law_s22 x) [v0, some (.loc 0), v2, some (nI n), some (.tup ((netOf n).map lvD)), r5, r6, r7, r8, r9, r10, r11, some (.int st), some (nI g), some (nI w), r15, r16] S' = some (((List.range n).map nI, []), S') ∧
      evi (clJ pg J) 0 (law_s21 x) [v0, some (.loc 0), v2, some (nI n), some (.tup ((netOf n).map lvD)), r5, r6, r7, r8, r9, r10, r11, some (.int st), some (nI g), some (nI w), r15, r16] S' = some (((List.range n).map nI, []), S') ∧
      evi (clJ pg J) 0 (law_s18 x) [v0, some (.loc 0), v2, some (nI n), some (.tup ((netOf n).map lvD)), r5, r6, r7, r8, r9, r10, r11, some (.int st), some (nI g), some (nI w), r15, r16] S' = some (((List.range n).map nI, []), S') ∧
      evi (clJ pg J) 0 (law_s15 x) [v0, some (.loc 0), v2, some (nI n), some (.tup ((netOf n).map lvD)), r5, r6, r7, r8, r9, r10, r11, some (.int st), some (nI g), some (nI w), r15, r16] S' = some (((List.range n).map nI, []), S') ∧
      evi (clJ pg J) 0 (law_s12 x) [v0, some (.loc 0), v2, some (nI n), some (.tup ((netOf n).map lvD)), r5, r6, r7, r8, r9, r10, r11, some (.int st), some (nI g), some (nI w), r15, r16] S' = some (((List.range n).map nI, []), S') := fun S' r5 r6 r7 r8 r9 r10 r11 r15 r16 => by
    refine ⟨?_, ?_, ?_, ?_, ?_⟩
    all_goals
      refine rng1 ?_ (by omega)
      simp only [excs, exc, ev, evs, evo, evi, evt, asg, asgs, dOf_d, dOf_fl, tOf_some, Option.bind_some, Option.map_some, Option.bind_none, Option.map_none, bfun, EV.b1, EV.b2, setMany, plOf, seqOf, tupOf, lstOf, lsmOf, truth, cmpop, ltD, EV.i2, List.map_cons, List.map_nil, List.length_cons, List.length_nil, Nat.reduceAdd, Nat.reduceLT, Nat.reduceSub, if_true, if_false, Bool.false_eq_true, List.set_cons_zero, List.set_cons_succ, List.getElem?_cons_succ, List.getElem?_cons_zero, Option.join_some, List.cons_append, List.nil_append, List.replicate, decide_true, decide_false, Bool.not_true, Bool.not_false, reduceCtorEq]
  have s22 := fun S' r5 r6 r7 r8 r9 r10 r11 r15 r16 => (srcs S' r5 r6 r7 r8 r9 r10 r11 r15 r16).1
  have s21 := fun S' r5 r6 r7 r8 r9 r10 r11 r15 r16 => (srcs S' r5 r6 r7 r8 r9 r10 r11 r15 r16).2.1
  have s18 := fun S' r5 r6 r7 r8 r9 r10 r11 r15 r16 => (srcs S' r5 r6 r7 r8 r9 r10 r11 r15 r16).2.2.1
  have s15 := fun S' r5 r6 r7 r8 r9 r10 r11 r15 r16 => (srcs S' r5 r6 r7 r8 r9 r10 r11 r15 r16).2.2.2.1
  have s12 := fun S' r5 r6 r7 r8 r9 r10 r11 r15 r16 => (srcs S' r5 r6 r7 r8 r9 r10 r11 r15 r16).2.2.2.2
  have tzr : tz ((List.range n).map nI) = some (.d (.tup ((List.range n).map nI))) := tz_ok (by rw [sizeLine_eq]; simp; omega)
  have mm : ∀ (S : Sto) (i j : Int), -10000000 ≤ i ∧ i ≤ 10000000 → -10000000 ≤ j ∧ j ≤ 10000000 → binop .Mult S (.int i) (.int j) = some (.d (.int (i * j))) := fun S i j hi hj => mul_int ⟨by omega, by omega⟩ ⟨by omega, by omega⟩
  have bi : ∀ i : Int, bInt (.int i) = some (.d (.int i)) := fun i => rfl
  have k19 : ∀ (S : Sto) (r5 r6 r7 r8 r9 r10 r11 r16 : Option EV.D), compT (clJ pg J) 0 (law_t20 x) (law_e19 x) [] S (wipeE [v0, some (.loc 0), v2, some (nI n), some (.tup ((netOf n).map lvD)), r5, r6, r7, r8, r9, r10, r11, some (.int st), some (nI g), some (nI w), r15, r16] [15]) ((List.range n).map nI) [] S = some ((mkRow n fun i => ((g : Int) + st * (i : Int)) % (n : Int)).map .int, S) := fun S r5 r6 r7 r8 r9 r10 r11 r16 => by
    refine row_comp _ (by omega) fun i hi => ⟨[v0, some (.loc 0), v2, some (nI n), some (.tup ((netOf n).map lvD)), r5, r6, r7, r8, r9, r10, r11, some (.int st), some (nI g), some (nI w), some (nI i), r16], by simp [law_t20, asg, wipeE], ?_⟩
    simp only [law_e19, excs, exc, ev, evs, evo, evi, evt, asg, asgs, dOf_d, dOf_fl, tOf_some, Option.bind_some, Option.map_some, Option.bind_none, Option.map_none, bfun, EV.b1, EV.b2, setMany, plOf, seqOf, tupOf, lstOf, lsmOf, truth, cmpop, ltD, EV.i2, List.map_cons, List.map_nil, List.length_cons, List.length_nil, Nat.reduceAdd, Nat.reduceLT, Nat.reduceSub, if_true, if_false, Bool.false_eq_true, List.set_cons_zero, List.set_cons_succ, List.getElem?_cons_succ, List.getElem?_cons_zero, Option.join_some, List.cons_append, List.nil_append, List.replicate, decide_true, decide_false, Bool.not_true, Bool.not_false, reduceCtorEq, mm _ st (i : Int) (by omega) (by omega), add_int, bi, mod_int (show (0 : Int) < (n : Int) by omega)]
  have k16 : ∀ (S : Sto) (r5 r6 r7 r8 r9 r10 r11 r16 : Option EV.D), compT (clJ pg J) 0 (law_t17 x) (law_e16 x) [] S (wipeE [v0, some (.loc 0), v2, some (nI n), some (.tup ((netOf n).map lvD)), r5, r6, r7, r8, r9, r10, r11, some (.int st), some (nI g), some (nI w), r15, r16] [15]) ((List.range n).map nI) [] S = some ((mkRow n fun i => ((i : Int) * (i : Int) + st) % 7).map .int, S) := fun S r5 r6 r7 r8 r9 r10 r11 r16 => by
    refine row_comp _ (by omega) fun i hi => ⟨[v0, some (.loc 0), v2, some (nI n), some (.tup ((netOf n).map lvD)), r5, r6, r7, r8, r9, r10, r11, some (.int st), some (nI g), some (nI w), some (nI i), r16], by simp [law_t17, asg, wipeE], ?_⟩
    simp only [law_e16, excs, exc, ev, evs, evo, evi, evt, asg, asgs, dOf_d, dOf_fl, tOf_some, Option.bind_some, Option.map_some, Option.bind_none, Option.map_none, bfun, EV.b1, EV.b2, setMany, plOf, seqOf, tupOf, lstOf, lsmOf, truth, cmpop, ltD, EV.i2, List.map_cons, List.map_nil, List.length_cons, List.length_nil, Nat.reduceAdd, Nat.reduceLT, Nat.reduceSub, if_true, if_false, Bool.false_eq_true, List.set_cons_zero, List.set_cons_succ, List.getElem?_cons_succ, List.getElem?_cons_zero, Option.join_some, List.cons_append, List.nil_append, List.replicate, decide_true, decide_false, Bool.not_true, Bool.not_false, reduceCtorEq, mm _ (i : Int) (i : Int) (by omega) (by omega), add_int, bi, mod_int (show (0 : Int) < 7 by omega)]
  have k13 : ∀ (S : Sto) (r5 r6 r7 r8 r9 r10 r11 r16 : Option EV.D), compT (clJ pg J) 0 (law_t14 x) (law_e13 x) [] S (wipeE [v0, some (.loc 0), v2, some (nI n), some (.tup ((netOf n).map lvD)), r5, r6, r7, r8, r9, r10, r11, some (.int st), some (nI g), some (nI w), r15, r16] [15]) ((List.range n).map nI) [] S = some ((mkRow n fun i => (((i : Int) + (g : Int)) * st) % 2).map .int, S) := fun S r5 r6 r7 r8 r9 r10 r11 r16 => by
    refine row_comp _ (by omega) fun i hi => ⟨[v0, some (.loc 0), v2, some (nI n), some (.tup ((netOf n).map lvD)), r5, r6, r7, r8, r9, r10, r11, some (.int st), some (nI g), some (nI w), some (nI i), r16], by simp [law_t14, asg, wipeE], ?_⟩
    simp only [law_e13, excs, exc, ev, evs, evo, evi, evt, asg, asgs, dOf_d, dOf_fl, tOf_some, Option.bind_some, Option.map_some, Option.bind_none, Option.map_none, bfun, EV.b1, EV.b2, setMany, plOf, seqOf, tupOf, lstOf, lsmOf, truth, cmpop, ltD, EV.i2, List.map_cons, List.map_nil, List.length_cons, List.length_nil, Nat.reduceAdd, Nat.reduceLT, Nat.reduceSub, if_true, if_false, Bool.false_eq_true, List.set_cons_zero, List.set_cons_succ, List.getElem?_cons_succ, List.getElem?_cons_zero, Option.join_some, List.cons_append, List.nil_append, List.replicate, decide_true, decide_false, Bool.not_true, Bool.not_false, reduceCtorEq, add_int, mm _ ((i : Int) + (g : Int)) st (by omega) (by omega), bi, mod_int (show (0 : Int) < 2 by omega)]
  have k10 : ∀ (S : Sto) (r5 r6 r7 r8 r9 r10 r11 r16 : Option EV.D), compT (clJ pg J) 0 (law_t11 x) (law_e10 x) [] S (wipeE [v0, some (.loc 0), v2, some (nI n), some (.tup ((netOf n).map lvD)), r5, r6, r7, r8, r9, r10, r11, some (.int st), some (nI g), some (nI w), r15, r16] [15]) ((List.range n).map nI) [] S = some ((mkRow n fun i => if decide ((i : Int) < (w : Int)) = true then 1 else 0).map .int, S) := fun S r5 r6 r7 r8 r9 r10 r11 r16 => by
    refine row_comp _ (by omega) fun i hi => ⟨[v0, some (.loc 0), v2, some (nI n), some (.tup ((netOf n).map lvD)), r5, r6, r7, r8, r9, r10, r11, some (.int st), some (nI g), some (nI w), some (nI i), r16], by simp [law_t11, asg, wipeE], ?_⟩
    simp only [law_e10, excs, exc, ev, evs, evo, evi, evt, asg, asgs, dOf_d, dOf_fl, tOf_some, Option.bind_some, Option.map_some, Option.bind_none, Option.map_none, bfun, EV.b1, EV.b2, setMany, plOf, seqOf, tupOf, lstOf, lsmOf, truth, cmpop, ltD, EV.i2, List.map_cons, List.map_nil, List.length_cons, List.length_nil, Nat.reduceAdd, Nat.reduceLT, Nat.reduceSub, if_true, if_false, Bool.false_eq_true, List.set_cons_zero, List.set_cons_succ, List.getElem?_cons_succ, List.getElem?_cons_zero, Option.join_some, List.cons_append, List.nil_append, List.replicate, decide_true, decide_false, Bool.not_true, Bool.not_false, reduceCtorEq, ltI2, bInt]
  have rv : ((List.range n).map nI).reverse = (((List.range n).map fun i : Nat => (i : Int)).reverse).map EV.D.int := by rw [List.map_reverse, List.map_map]; rfl
  have sB : ∀ S : Sto, slice S (.tup ((List.range n).map nI)) none none .back = some (.d (rowD ((List.range n).map fun i : Nat => (i : Int)).reverse)) := fun S => by rw [sl_tupB, rv]
  generalize hr0 : ((List.range n).map fun i : Nat => (i : Int)).reverse = r0 at sB
  generalize hr1 : (mkRow n fun i => ((g : Int) + st * (i : Int)) % (n : Int)) = r1 at k19
  generalize hr2 : (mkRow n fun i => ((i : Int) * (i : Int) + st) % 7) = r2 at k16
  generalize hr3 : (mkRow n fun i => (((i : Int) + (g : Int)) * st) % 2) = r3' at k13
  generalize hr4 : (mkRow n fun i => if decide ((i : Int) < (w : Int)) = true then (1 : Int) else 0) = r4' at k10
  have l0 : r0.length = n := by rw [← hr0]; simp
  have l1 : r1.length = n := by rw [← hr1]; simp [mkRow]
  have l2 : r2.length = n := by rw [← hr2]; simp [mkRow]
  have l3 : r3'.length = n := by rw [← hr3]; simp [mkRow]
  have l4 : r4'.length = n := by rw [← hr4]; simp [mkRow]
  -- where the rows lie
  have hsl : (sizeLine : Nat) = 16777216 := sizeLine_eq
  have pl : ∀ ds : List EV.D, (S6 ++ [Cell.lst ds])[S6.length]? = some (.lst ds) := fun ds => by simp
  have stS : ∀ ds es : List EV.D, (S6 ++ [Cell.lst ds]).set S6.length (.lst es) = S6 ++ [.lst es] := fun ds es => by rw [List.set_append_right _ _ (Nat.le_refl _)]; simp
  have kd := fun ds => kind_loc (pl ds)
  have ap : ∀ (ds : List EV.D) (d : EV.D), ds.length ≤ 10 → bmeth 0 .append true (S6 ++ [Cell.lst ds]) (.loc S6.length) [d] = some (.d .non, S6 ++ [.lst (ds ++ [d])]) := fun ds d h => by
    rw [app_loc (pl ds) (Nat.zero_le _) (by omega), stS]
  have ap2 := fun d => ap [rowD r0, rowD r1] d (by simp)
  have ap3 := fun d => ap [rowD r0, rowD r1, rowD r2] d (by simp)
  have ap4 := fun d => ap [rowD r0, rowD r1, rowD r2, rowD r3'] d (by simp)
  simp only [List.cons_append, List.nil_append] at ap2 ap3 ap4
  have hrs : ∀ r ∈ [r0, r1, r2, r3', r4'], r.length = n := by simp [l0, l1, l2, l3, l4]
  obtain ⟨r8a, L1⟩ := rows1 H (J := J) (b := 0) (q := S6.length) (by omega) hn (S6 ++ [.lst ([r0, r1, r2, r3', r4'].map rowD)]) [r0, r1, r2, r3', r4'] hrs v0 (some (.loc 0)) v2 (some (nI n)) (some (.int ((netOf n).length : Int))) r8 r9 r10 r11 (some (.int st)) (some (nI g)) (some (nI w)) r15 r16
  -- rows of rows
  have i2 : itemAt (S6 ++ [.lst ([r0, r1, r2, r3', r4'].map rowD)]) (.loc S6.length) (.int 2) = some (rowD r2) := itemAt_loc (pl _) (i := 2) rfl
  have i1 : itemAt (S6 ++ [.lst ([r0, r1, r2, r3', r4'].map rowD)]) (.loc S6.length) (.int 1) = some (rowD r1) := itemAt_loc (pl _) (i := 1) rfl
  have s7 : ∀ (r8 r9 r10 r11 r15 r16 : Option EV.D), evi (clJ pg J) 0 (law_s7 x) [v0, some (.loc 0), v2, some (nI n), some (.tup ((netOf n).map lvD)), some (.tup ((netOf n).flatten.map prD)), some (.int ((netOf n).length : Int)), some (.loc S6.length), r8, r9, r10, r11, some (.int st), some (nI g), some (nI w), r15, r16] (S6 ++ [.lst ([r0, r1, r2, r3', r4'].map rowD)]) = some (((List.range n).map fun j : Nat => EV.D.tup [.int (0 + (j : Int)), (r2.map EV.D.int)[j]?.getD .non], []), S6 ++ [.lst ([r0, r1, r2, r3', r4'].map rowD)]) := fun r8 r9 r10 r11 r15 r16 => by
    rw [← l2]
    simp only [law_s7, excs, exc, ev, evs, evo, evi, evt, asg, asgs, dOf_d, dOf_fl, tOf_some, Option.bind_some, Option.map_some, Option.bind_none, Option.map_none, bfun, EV.b1, EV.b2, setMany, plOf, seqOf, tupOf, lstOf, lsmOf, truth, cmpop, ltD, EV.i2, List.map_cons, List.map_nil, List.length_cons, List.length_nil, Nat.reduceAdd, Nat.reduceLT, Nat.reduceSub, if_true, if_false, Bool.false_eq_true, List.set_cons_zero, List.set_cons_succ, List.getElem?_cons_succ, List.getElem?_cons_zero, Option.join_some, List.cons_append, List.nil_append, List.replicate, decide_true, decide_false, Bool.not_true, Bool.not_false, reduceCtorEq] at i2 ⊢
    simp only [i2, Option.map_some, Option.bind_some, dOf_d]
    rw [enumD_eq, List.length_map]
  have k5 : ∀ (r8 r9 r10 r11 : Option EV.D), compT (clJ pg J) 0 (law_t6 x) (law_e5 x) [] (S6 ++ [.lst ([r0, r1, r2, r3', r4'].map rowD)]) (wipeE [v0, some (.loc 0), v2, some (nI n), some (.tup ((netOf n).map lvD)), some (.tup ((netOf n).flatten.map prD)), some (.int ((netOf n).length : Int)), some (.loc S6.length), r8, r9, r10, r11, some (.int st), some (nI g), some (nI w), r15, r16] [15, 16]) ((List.range n).map fun j : Nat => EV.D.tup [.int (0 + (j : Int)), (r2.map EV.D.int)[j]?.getD .non]) [] (S6 ++ [.lst ([r0, r1, r2, r3', r4'].map rowD)]) = some ((rowsOf r2).map pI, S6 ++ [.lst ([r0, r1, r2, r3', r4'].map rowD)]) := fun r8 r9 r10 r11 => by
    have := comp_map (tg := fun d ρ S' => asg (clJ pg J) 0 (law_t6 x) d ρ S') (tst := fun _ S => some (true, S)) (elt := fun ρ S' => dOf (ev (clJ pg J) 0 (law_e5 x) ρ S')) (ws := []) (ρ := wipeE [v0, some (.loc 0), v2, some (nI n), some (.tup ((netOf n).map lvD)), some (.tup ((netOf n).flatten.map prD)), some (.int ((netOf n).length : Int)), some (.loc S6.length), r8, r9, r10, r11, some (.int st), some (nI g), some (nI w), r15, r16] [15, 16]) (S0 := S6 ++ [.lst ([r0, r1, r2, r3', r4'].map rowD)]) (S := S6 ++ [.lst ([r0, r1, r2, r3', r4'].map rowD)]) (fun j : Nat => EV.D.tup [.int (0 + (j : Int)), (r2.map EV.D.int)[j]?.getD .non]) (fun j : Nat => pI (r2[j]?.getD 0, (j : Int))) rfl (List.range n) [] (fun i hi => by
      have hi : i < r2.length := by rw [l2]; exact List.mem_range.1 hi
      have hg : r2[i]? = some r2[i] := List.getElem?_eq_getElem hi
      have hg2 : (r2.map EV.D.int)[i]?.getD .non = .int r2[i] := by rw [List.getElem?_map, hg]; rfl
      refine ⟨[v0, some (.loc 0), v2, some (nI n), some (.tup ((netOf n).map lvD)), some (.tup ((netOf n).flatten.map prD)), some (.int ((netOf n).length : Int)), some (.loc S6.length), r8, r9, r10, r11, some (.int st), some (nI g), some (nI w), some (nI i), some (.int r2[i])], ?_, rfl, ?_⟩
      · rw [hg2]
        simp [law_t6, asg, asgs, wipeE, tupOf]
      · rw [hg]
        simp only [law_e5, excs, exc, ev, evs, evo, evi, evt, asg, asgs, dOf_d, dOf_fl, tOf_some, Option.bind_some, Option.map_some, Option.bind_none, Option.map_none, bfun, EV.b1, EV.b2, setMany, plOf, seqOf, tupOf, lstOf, lsmOf, truth, cmpop, ltD, EV.i2, List.map_cons, List.map_nil, List.length_cons, List.length_nil, Nat.reduceAdd, Nat.reduceLT, Nat.reduceSub, if_true, if_false, Bool.false_eq_true, List.set_cons_zero, List.set_cons_succ, List.getElem?_cons_succ, List.getElem?_cons_zero, Option.join_some, List.cons_append, List.nil_append, List.replicate, decide_true, decide_false, Bool.not_true, Bool.not_false, reduceCtorEq, tz2]
        rfl) (by rw [hsl]; simp; omega)
    rw [List.nil_append] at this
    refine this.trans ?_
    rw [rowsOf, List.map_map, l2]
    rfl
  have lR : (rowsOf r2).length = n := by simp [rowsOf, l2]
  have dR := fun B S => done_run H.done (J := J) (by omega) encP (netOf n) (rowsOf r2) (fun L hL p hp => by have := (netOf_ok hn L hL).lt p hp; omega) (.tup ((netOf n).map lvD)) (.tup ((rowsOf r2).map pI)) (.inl rfl) (.inr rfl) B S
  have hR := ord_sorts ordP antiP (fun L => soP_perm L) 7 (rowsOf r2) (by omega)
  have hle : (fun x y : Int × Int => !ltP y x) = pairLe := by
    funext p q
    exact Nw.leP p q
  rw [lR, hle] at hR
  change runs ltP (netOf n).flatten (rowsOf r2) = _ at hR
  rw [hR] at dR
  have sR := fun S => rows_sort S (rowsOf r2) (by omega)
  have mlen : ((rowsOf r2).mergeSort pairLe).length = n := by rw [List.length_mergeSort, lR]
  generalize (rowsOf r2).mergeSort pairLe = R at *
  have nB := fun B S => neighbours_run H.neighbours (J := J) (by omega) n (by omega) B S
  have dN := fun B S => done_run H.done (J := J) (by omega) encI (nbL n) r1 (fun L hL p hp => by
    obtain ⟨t, ht, rfl⟩ := List.mem_map.1 hL
    rw [lv_map] at hp
    obtain ⟨i, hi, rfl⟩ := List.mem_map.1 hp
    have := List.mem_range.1 hi
    have := List.mem_range.1 ht
    show t % 2 + 2 * i < r1.length ∧ t % 2 + 2 * i + 1 < r1.length
    omega) (.tup ((nbL n).map lvD)) (rowD r1) (.inl rfl) (.inr rfl) B S
  have hN := nb_sorts ordI antiI r1
  rw [l1, leI] at hN
  rw [nbL_flat, hN] at dN
  change ∀ B S, run pg J (x.f F.done) [.tup ((nbL n).map lvD), rowD r1] B S = some (rowD (srt r1), S) at dN
  have sN := fun S => row_sort S r1 (by omega)
  have alF := fun B S => alike_ok H.hlp.alike (J := J) (by omega) (d := .lst [.tup (R.map pI), rowD (srt r1)]) (alk_fine (n := 3) (by
    show D.fines 2 _ = true
    have f1 : D.fine 2 (.tup (R.map pI)) = true := by
      show D.fines 1 (R.map pI) = true
      exact fines_map fun p _ => rfl
    simp [D.fines, f1, fine_mono (show 1 ≤ 2 by decide) (row_fine (srt r1))])) (by
    have z1 := row_size (srt r1)
    have z2 := tup_size (f := pI) (xs := R) (c := 3) fun p _ => by simp [pI, dSize, dSizes]
    rw [srt_len, l1] at z1
    simp only [dSize, dSizes] at z1 z2 ⊢
    omega) B S
  have neg1 : ∀ S : Sto, slice S (.tup ((netOf n).map lvD)) none (some (-1)) .one = some (.d (.tup ((netOf n).dropLast.map lvD))) := fun S => by rw [sl_tup, cutD_but1, List.map_dropLast]
  obtain ⟨r8b, L2⟩ := rows2 H (J := J) (b := 0) (q := S6.length) (by omega) hn (S6 ++ [.lst ([r0, r1, r2, r3', r4'].map rowD)]) [r0, r1, r2, r3', r4'] hrs v0 (some (.loc 0)) v2 (some (nI n)) (some (.tup ((netOf n).map lvD))) (some (.tup ((netOf n).flatten.map prD))) (some (.int ((netOf n).length : Int))) r8a (some (.tup ((rowsOf r2).map pI))) (some (.lst [.tup (R.map pI), rowD (srt r1)])) (some (.int st)) (some (nI g)) (some (nI w)) r15 r16
  refine ⟨S6 ++ [.lst ([r0, r1, r2, r3', r4'].map rowD)], some (nI n), some (.tup ((netOf n).map lvD)), some (.tup ((netOf n).flatten.map prD)), some (.int ((netOf n).length : Int)), some (.loc S6.length), r8b, some (.tup ((rowsOf r2).map pI)), some (.lst [.tup (R.map pI), rowD (srt r1)]), some (.tup ((netOf n).dropLast.map lvD)), some (.int st), some (nI g), some (nI w), r15, r16, (h3.mono (by omega)).same (by rw [List.getElem?_append_left (by omega)]), ?_⟩
  simp only [clJ, forX, compT] at s23 s22 s21 s18 s15 s12 k19 k16 k13 k10 L1 s7 k5 L2 ⊢
  simp only [List.map_cons, List.map_nil] at L1 s7 k5 L2 i1 i2
  have ss : ∀ ds : List EV.D, lstOf (S6 ++ [.lst ds]) (.loc S6.length) = some ds := fun ds => by simp only [lstOf, pl]
  unfold law_b24
  refine excs_nx (by simp only [excs, exc, ev, evs, evo, evi, evt, asg, asgs, dOf_d, dOf_fl, tOf_some, Option.bind_some, Option.map_some, Option.bind_none, Option.map_none, bfun, EV.b1, EV.b2, setMany, plOf, seqOf, tupOf, lstOf, lsmOf, truth, cmpop, ltD, EV.i2, List.map_cons, List.map_nil, List.length_cons, List.length_nil, Nat.reduceAdd, Nat.reduceLT, Nat.reduceSub, if_true, if_false, Bool.false_eq_true, List.set_cons_zero, List.set_cons_succ, List.getElem?_cons_succ, List.getElem?_cons_zero, Option.join_some, List.cons_append, List.nil_append, List.replicate, decide_true, decide_false, Bool.not_true, Bool.not_false, reduceCtorEq, a2, b2, c2, lz5, ad1, e1, e2, e3, e4, e5, al1, al2, al3, s23, lzr, tup_lst, tup_tup, len_tup, List.length_map, ml, tz4, f2, g2, h2, m2u, nn1, a2u, tz3, s22, s21, s18, s15, s12, tzr, sB, k19, k16, k13, k10, lz2, Vl.place, kd, ap2, ap3, ap4, pl, L1, s7, k5, dR, sR, nB, dN, sN, i1, i2, alF, neg1, L2]; try rfl) ?_
  refine excs_nx (by simp only [excs, exc, ev, evs, evo, evi, evt, asg, asgs, dOf_d, dOf_fl, tOf_some, Option.bind_some, Option.map_some, Option.bind_none, Option.map_none, bfun, EV.b1, EV.b2, setMany, plOf, seqOf, tupOf, lstOf, lsmOf, truth, cmpop, ltD, EV.i2, List.map_cons, List.map_nil, List.length_cons, List.length_nil, Nat.reduceAdd, Nat.reduceLT, Nat.reduceSub, if_true, if_false, Bool.false_eq_true, List.set_cons_zero, List.set_cons_succ, List.getElem?_cons_succ, List.getElem?_cons_zero, Option.join_some, List.cons_append, List.nil_append, List.replicate, decide_true, decide_false, Bool.not_true, Bool.not_false, reduceCtorEq, a2, b2, c2, lz5, ad1, e1, e2, e3, e4, e5, al1, al2, al3, s23, lzr, tup_lst, tup_tup, len_tup, List.length_map, ml, tz4, f2, g2, h2, m2u, nn1, a2u, tz3, s22, s21, s18, s15, s12, tzr, sB, k19, k16, k13, k10, lz2, Vl.place, kd, ap2, ap3, ap4, pl, L1, s7, k5, dR, sR, nB, dN, sN, i1, i2, alF, neg1, L2]; try rfl) ?_
  refine excs_nx (by simp only [excs, exc, ev, evs, evo, evi, evt, asg, asgs, dOf_d, dOf_fl, tOf_some, Option.bind_some, Option.map_some, Option.bind_none, Option.map_none, bfun, EV.b1, EV.b2, setMany, plOf, seqOf, tupOf, lstOf, lsmOf, truth, cmpop, ltD, EV.i2, List.map_cons, List.map_nil, List.length_cons, List.length_nil, Nat.reduceAdd, Nat.reduceLT, Nat.reduceSub, if_true, if_false, Bool.false_eq_true, List.set_cons_zero, List.set_cons_succ, List.getElem?_cons_succ, List.getElem?_cons_zero, Option.join_some, List.cons_append, List.nil_append, List.replicate, decide_true, decide_false, Bool.not_true, Bool.not_false, reduceCtorEq, a2, b2, c2, lz5, ad1, e1, e2, e3, e4, e5, al1, al2, al3, s23, lzr, tup_lst, tup_tup, len_tup, List.length_map, ml, tz4, f2, g2, h2, m2u, nn1, a2u, tz3, s22, s21, s18, s15, s12, tzr, sB, k19, k16, k13, k10, lz2, Vl.place, kd, ap2, ap3, ap4, pl, L1, s7, k5, dR, sR, nB, dN, sN, i1, i2, alF, neg1, L2]; try rfl) ?_
  refine excs_nx (by simp only [excs, exc, ev, evs, evo, evi, evt, asg, asgs, dOf_d, dOf_fl, tOf_some, Option.bind_some, Option.map_some, Option.bind_none, Option.map_none, bfun, EV.b1, EV.b2, setMany, plOf, seqOf, tupOf, lstOf, lsmOf, truth, cmpop, ltD, EV.i2, List.map_cons, List.map_nil, List.length_cons, List.length_nil, Nat.reduceAdd, Nat.reduceLT, Nat.reduceSub, if_true, if_false, Bool.false_eq_true, List.set_cons_zero, List.set_cons_succ, List.getElem?_cons_succ, List.getElem?_cons_zero, Option.join_some, List.cons_append, List.nil_append, List.replicate, decide_true, decide_false, Bool.not_true, Bool.not_false, reduceCtorEq, a2, b2, c2, lz5, ad1, e1, e2, e3, e4, e5, al1, al2, al3, s23, lzr, tup_lst, tup_tup, len_tup, List.length_map, ml, tz4, f2, g2, h2, m2u, nn1, a2u, tz3, s22, s21, s18, s15, s12, tzr, sB, k19, k16, k13, k10, lz2, Vl.place, kd, ap2, ap3, ap4, pl, L1, s7, k5, dR, sR, nB, dN, sN, i1, i2, alF, neg1, L2]; try rfl) ?_
  refine excs_nx (by simp only [excs, exc, ev, evs, evo, evi, evt, asg, asgs, dOf_d, dOf_fl, tOf_some, Option.bind_some, Option.map_some, Option.bind_none, Option.map_none, bfun, EV.b1, EV.b2, setMany, plOf, seqOf, tupOf, lstOf, lsmOf, truth, cmpop, ltD, EV.i2, List.map_cons, List.map_nil, List.length_cons, List.length_nil, Nat.reduceAdd, Nat.reduceLT, Nat.reduceSub, if_true, if_false, Bool.false_eq_true, List.set_cons_zero, List.set_cons_succ, List.getElem?_cons_succ, List.getElem?_cons_zero, Option.join_some, List.cons_append, List.nil_append, List.replicate, decide_true, decide_false, Bool.not_true, Bool.not_false, reduceCtorEq, a2, b2, c2, lz5, ad1, e1, e2, e3, e4, e5, al1, al2, al3, s23, lzr, tup_lst, tup_tup, len_tup, List.length_map, ml, tz4, f2, g2, h2, m2u, nn1, a2u, tz3, s22, s21, s18, s15, s12, tzr, sB, k19, k16, k13, k10, lz2, Vl.place, kd, ap2, ap3, ap4, pl, L1, s7, k5, dR, sR, nB, dN, sN, i1, i2, alF, neg1, L2]; try rfl) ?_
  refine excs_nx (by simp only [excs, exc, ev, evs, evo, evi, evt, asg, asgs, dOf_d, dOf_fl, tOf_some, Option.bind_some, Option.map_some, Option.bind_none, Option.map_none, bfun, EV.b1, EV.b2, setMany, plOf, seqOf, tupOf, lstOf, lsmOf, truth, cmpop, ltD, EV.i2, List.map_cons, List.map_nil, List.length_cons, List.length_nil, Nat.reduceAdd, Nat.reduceLT, Nat.reduceSub, if_true, if_false, Bool.false_eq_true, List.set_cons_zero, List.set_cons_succ, List.getElem?_cons_succ, List.getElem?_cons_zero, Option.join_some, List.cons_append, List.nil_append, List.replicate, decide_true, decide_false, Bool.not_true, Bool.not_false, reduceCtorEq, a2, b2, c2, lz5, ad1, e1, e2, e3, e4, e5, al1, al2, al3, s23, lzr, tup_lst, tup_tup, len_tup, List.length_map, ml, tz4, f2, g2, h2, m2u, nn1, a2u, tz3, s22, s21, s18, s15, s12, tzr, sB, k19, k16, k13, k10, lz2, Vl.place, kd, ap2, ap3, ap4, pl, L1, s7, k5, dR, sR, nB, dN, sN, i1, i2, alF, neg1, L2]; try rfl) ?_
  refine excs_nx (by simp only [excs, exc, ev, evs, evo, evi, evt, asg, asgs, dOf_d, dOf_fl, tOf_some, Option.bind_some, Option.map_some, Option.bind_none, Option.map_none, bfun, EV.b1, EV.b2, setMany, plOf, seqOf, tupOf, lstOf, lsmOf, truth, cmpop, ltD, EV.i2, List.map_cons, List.map_nil, List.length_cons, List.length_nil, Nat.reduceAdd, Nat.reduceLT, Nat.reduceSub, if_true, if_false, Bool.false_eq_true, List.set_cons_zero, List.set_cons_succ, List.getElem?_cons_succ, List.getElem?_cons_zero, Option.join_some, List.cons_append, List.nil_append, List.replicate, decide_true, decide_false, Bool.not_true, Bool.not_false, reduceCtorEq, a2, b2, c2, lz5, ad1, e1, e2, e3, e4, e5, al1, al2, al3, s23, lzr, tup_lst, tup_tup, len_tup, List.length_map, ml, tz4, f2, g2, h2, m2u, nn1, a2u, tz3, s22, s21, s18, s15, s12, tzr, sB, k19, k16, k13, k10, lz2, Vl.place, kd, ap2, ap3, ap4, pl, L1, s7, k5, dR, sR, nB, dN, sN, i1, i2, alF, neg1, L2]; try rfl) ?_
  refine excs_nx (by simp only [excs, exc, ev, evs, evo, evi, evt, asg, asgs, dOf_d, dOf_fl, tOf_some, Option.bind_some, Option.map_some, Option.bind_none, Option.map_none, bfun, EV.b1, EV.b2, setMany, plOf, seqOf, tupOf, lstOf, lsmOf, truth, cmpop, ltD, EV.i2, List.map_cons, List.map_nil, List.length_cons, List.length_nil, Nat.reduceAdd, Nat.reduceLT, Nat.reduceSub, if_true, if_false, Bool.false_eq_true, List.set_cons_zero, List.set_cons_succ, List.getElem?_cons_succ, List.getElem?_cons_zero, Option.join_some, List.cons_append, List.nil_append, List.replicate, decide_true, decide_false, Bool.not_true, Bool.not_false, reduceCtorEq, a2, b2, c2, lz5, ad1, e1, e2, e3, e4, e5, al1, al2, al3, s23, lzr, tup_lst, tup_tup, len_tup, List.length_map, ml, tz4, f2, g2, h2, m2u, nn1, a2u, tz3, s22, s21, s18, s15, s12, tzr, sB, k19, k16, k13, k10, lz2, Vl.place, kd, ap2, ap3, ap4, pl, L1, s7, k5, dR, sR, nB, dN, sN, i1, i2, alF, neg1, L2]; try rfl) ?_
  refine excs_nx (by simp only [excs, exc, ev, evs, evo, evi, evt, asg, asgs, dOf_d, dOf_fl, tOf_some, Option.bind_some, Option.map_some, Option.bind_none, Option.map_none, bfun, EV.b1, EV.b2, setMany, plOf, seqOf, tupOf, lstOf, lsmOf, truth, cmpop, ltD, EV.i2, List.map_cons, List.map_nil, List.length_cons, List.length_nil, Nat.reduceAdd, Nat.reduceLT, Nat.reduceSub, if_true, if_false, Bool.false_eq_true, List.set_cons_zero, List.set_cons_succ, List.getElem?_cons_succ, List.getElem?_cons_zero, Option.join_some, List.cons_append, List.nil_append, List.replicate, decide_true, decide_false, Bool.not_true, Bool.not_false, reduceCtorEq, a2, b2, c2, lz5, ad1, e1, e2, e3, e4, e5, al1, al2, al3, s23, lzr, tup_lst, tup_tup, len_tup, List.length_map, ml, tz4, f2, g2, h2, m2u, nn1, a2u, tz3, s22, s21, s18, s15, s12, tzr, sB, k19, k16, k13, k10, lz2, Vl.place, kd, ap2, ap3, ap4, pl, L1, s7, k5, dR, sR, nB, dN, sN, i1, i2, alF, neg1, L2]; try rfl) ?_
  refine excs_nx (by simp only [excs, exc, ev, evs, evo, evi, evt, asg, asgs, dOf_d, dOf_fl, tOf_some, Option.bind_some, Option.map_some, Option.bind_none, Option.map_none, bfun, EV.b1, EV.b2, setMany, plOf, seqOf, tupOf, lstOf, lsmOf, truth, cmpop, ltD, EV.i2, List.map_cons, List.map_nil, List.length_cons, List.length_nil, Nat.reduceAdd, Nat.reduceLT, Nat.reduceSub, if_true, if_false, Bool.false_eq_true, List.set_cons_zero, List.set_cons_succ, List.getElem?_cons_succ, List.getElem?_cons_zero, Option.join_some, List.cons_append, List.nil_append, List.replicate, decide_true, decide_false, Bool.not_true, Bool.not_false, reduceCtorEq, a2, b2, c2, lz5, ad1, e1, e2, e3, e4, e5, al1, al2, al3, s23, lzr, tup_lst, tup_tup, len_tup, List.length_map, ml, tz4, f2, g2, h2, m2u, nn1, a2u, tz3, s22, s21, s18, s15, s12, tzr, sB, k19, k16, k13, k10, lz2, Vl.place, kd, ap2, ap3, ap4, pl, L1, s7, k5, dR, sR, nB, dN, sN, i1, i2, alF, neg1, L2]; try rfl) ?_
  refine excs_nx (by simp only [excs, exc, ev, evs, evo, evi, evt, asg, asgs, dOf_d, dOf_fl, tOf_some, Option.bind_some, Option.map_some, Option.bind_none, Option.map_none, bfun, EV.b1, EV.b2, setMany, plOf, seqOf, tupOf, lstOf, lsmOf, truth, cmpop, ltD, EV.i2, List.map_cons, List.map_nil, List.length_cons, List.length_nil, Nat.reduceAdd, Nat.reduceLT, Nat.reduceSub, if_true, if_false, Bool.false_eq_true, List.set_cons_zero, List.set_cons_succ, List.getElem?_cons_succ, List.getElem?_cons_zero, Option.join_some, List.cons_append, List.nil_append, List.replicate, decide_true, decide_false, Bool.not_true, Bool.not_false, reduceCtorEq, a2, b2, c2, lz5, ad1, e1, e2, e3, e4, e5, al1, al2, al3, s23, lzr, tup_lst, tup_tup, len_tup, List.length_map, ml, tz4, f2, g2, h2, m2u, nn1, a2u, tz3, s22, s21, s18, s15, s12, tzr, sB, k19, k16, k13, k10, lz2, Vl.place, kd, ap2, ap3, ap4, pl, L1, s7, k5, dR, sR, nB, dN, sN, i1, i2, alF, neg1, L2]; try rfl) ?_
  refine excs_nx (by simp only [excs, exc, ev, evs, evo, evi, evt, asg, asgs, dOf_d, dOf_fl, tOf_some, Option.bind_some, Option.map_some, Option.bind_none, Option.map_none, bfun, EV.b1, EV.b2, setMany, plOf, seqOf, tupOf, lstOf, lsmOf, truth, cmpop, ltD, EV.i2, List.map_cons, List.map_nil, List.length_cons, List.length_nil, Nat.reduceAdd, Nat.reduceLT, Nat.reduceSub, if_true, if_false, Bool.false_eq_true, List.set_cons_zero, List.set_cons_succ, List.getElem?_cons_succ, List.getElem?_cons_zero, Option.join_some, List.cons_append, List.nil_append, List.replicate, decide_true, decide_false, Bool.not_true, Bool.not_false, reduceCtorEq, a2, b2, c2, lz5, ad1, e1, e2, e3, e4, e5, al1, al2, al3, s23, lzr, tup_lst, tup_tup, len_tup, List.length_map, ml, tz4, f2, g2, h2, m2u, nn1, a2u, tz3, s22, s21, s18, s15, s12, tzr, sB, k19, k16, k13, k10, lz2, Vl.place, kd, ap2, ap3, ap4, pl, L1, s7, k5, dR, sR, nB, dN, sN, i1, i2, alF, neg1, L2]; try rfl) ?_
  refine excs_nx (by simp only [excs, exc, ev, evs, evo, evi, evt, asg, asgs, dOf_d, dOf_fl, tOf_some, Option.bind_some, Option.map_some, Option.bind_none, Option.map_none, bfun, EV.b1, EV.b2, setMany, plOf, seqOf, tupOf, lstOf, lsmOf, truth, cmpop, ltD, EV.i2, List.map_cons, List.map_nil, List.length_cons, List.length_nil, Nat.reduceAdd, Nat.reduceLT, Nat.reduceSub, if_true, if_false, Bool.false_eq_true, List.set_cons_zero, List.set_cons_succ, List.getElem?_cons_succ, List.getElem?_cons_zero, Option.join_some, List.cons_append, List.nil_append, List.replicate, decide_true, decide_false, Bool.not_true, Bool.not_false, reduceCtorEq, a2, b2, c2, lz5, ad1, e1, e2, e3, e4, e5, al1, al2, al3, s23, lzr, tup_lst, tup_tup, len_tup, List.length_map, ml, tz4, f2, g2, h2, m2u, nn1, a2u, tz3, s22, s21, s18, s15, s12, tzr, sB, k19, k16, k13, k10, lz2, Vl.place, kd, ap2, ap3, ap4, pl, L1, s7, k5, dR, sR, nB, dN, sN, i1, i2, alF, neg1, L2]; try rfl) ?_
  refine excs_nx (by simp only [excs, exc, ev, evs, evo, evi, evt, asg, asgs, dOf_d, dOf_fl, tOf_some, Option.bind_some, Option.map_some, Option.bind_none, Option.map_none, bfun, EV.b1, EV.b2, setMany, plOf, seqOf, tupOf, lstOf, lsmOf, truth, cmpop, ltD, EV.i2, List.map_cons, List.map_nil, List.length_cons, List.length_nil, Nat.reduceAdd, Nat.reduceLT, Nat.reduceSub, if_true, if_false, Bool.false_eq_true, List.set_cons_zero, List.set_cons_succ, List.getElem?_cons_succ, List.getElem?_cons_zero, Option.join_some, List.cons_append, List.nil_append, List.replicate, decide_true, decide_false, Bool.not_true, Bool.not_false, reduceCtorEq, a2, b2, c2, lz5, ad1, e1, e2, e3, e4, e5, al1, al2, al3, s23, lzr, tup_lst, tup_tup, len_tup, List.length_map, ml, tz4, f2, g2, h2, m2u, nn1, a2u, tz3, s22, s21, s18, s15, s12, tzr, sB, k19, k16, k13, k10, lz2, Vl.place, kd, ap2, ap3, ap4, pl, L1, s7, k5, dR, sR, nB, dN, sN, i1, i2, alF, neg1, L2]; try rfl) ?_
  refine excs_nx (by simp only [excs, exc, ev, evs, evo, evi, evt, asg, asgs, dOf_d, dOf_fl, tOf_some, Option.bind_some, Option.map_some, Option.bind_none, Option.map_none, bfun, EV.b1, EV.b2, setMany, plOf, seqOf, tupOf, lstOf, lsmOf, truth, cmpop, ltD, EV.i2, List.map_cons, List.map_nil, List.length_cons, List.length_nil, Nat.reduceAdd, Nat.reduceLT, Nat.reduceSub, if_true, if_false, Bool.false_eq_true, List.set_cons_zero, List.set_cons_succ, List.getElem?_cons_succ, List.getElem?_cons_zero, Option.join_some, List.cons_append, List.nil_append, List.replicate, decide_true, decide_false, Bool.not_true, Bool.not_false, reduceCtorEq, a2, b2, c2, lz5, ad1, e1, e2, e3, e4, e5, al1, al2, al3, s23, lzr, tup_lst, tup_tup, len_tup, List.length_map, ml, tz4, f2, g2, h2, m2u, nn1, a2u, tz3, s22, s21, s18, s15, s12, tzr, sB, k19, k16, k13, k10, lz2, Vl.place, kd, ap2, ap3, ap4, pl, L1, s7, k5, dR, sR, nB, dN, sN, i1, i2, alF, neg1, L2]; try rfl) ?_
  refine excs_nx (by simp only [excs, exc, ev, evs, evo, evi, evt, asg, asgs, dOf_d, dOf_fl, tOf_some, Option.bind_some, Option.map_some, Option.bind_none, Option.map_none, bfun, EV.b1, EV.b2, setMany, plOf, seqOf, tupOf, lstOf, lsmOf, truth, cmpop, ltD, EV.i2, List.map_cons, List.map_nil, List.length_cons, List.length_nil, Nat.reduceAdd, Nat.reduceLT, Nat.reduceSub, if_true, if_false, Bool.false_eq_true, List.set_cons_zero, List.set_cons_succ, List.getElem?_cons_succ, List.getElem?_cons_zero, Option.join_some, List.cons_append, List.nil_append, List.replicate, decide_true, decide_false, Bool.not_true, Bool.not_false, reduceCtorEq, a2, b2, c2, lz5, ad1, e1, e2, e3, e4, e5, al1, al2, al3, s23, lzr, tup_lst, tup_tup, len_tup, List.length_map, ml, tz4, f2, g2, h2, m2u, nn1, a2u, tz3, s22, s21, s18, s15, s12, tzr, sB, k19, k16, k13, k10, lz2, Vl.place, kd, ap2, ap3, ap4, pl, L1, s7, k5, dR, sR, nB, dN, sN, i1, i2, alF, neg1, L2]; try rfl) ?_
  refine excs_nx (by simp only [excs, exc, ev, evs, evo, evi, evt, asg, asgs, dOf_d, dOf_fl, tOf_some, Option.bind_some, Option.map_some, Option.bind_none, Option.map_none, bfun, EV.b1, EV.b2, setMany, plOf, seqOf, tupOf, lstOf, lsmOf, truth, cmpop, ltD, EV.i2, List.map_cons, List.map_nil, List.length_cons, List.length_nil, Nat.reduceAdd, Nat.reduceLT, Nat.reduceSub, if_true, if_false, Bool.false_eq_true, List.set_cons_zero, List.set_cons_succ, List.getElem?_cons_succ, List.getElem?_cons_zero, Option.join_some, List.cons_append, List.nil_append, List.replicate, decide_true, decide_false, Bool.not_true, Bool.not_false, reduceCtorEq, a2, b2, c2, lz5, ad1, e1, e2, e3, e4, e5, al1, al2, al3, s23, lzr, tup_lst, tup_tup, len_tup, List.length_map, ml, tz4, f2, g2, h2, m2u, nn1, a2u, tz3, s22, s21, s18, s15, s12, tzr, sB, k19, k16, k13, k10, lz2, Vl.place, kd, ap2, ap3, ap4, pl, L1, s7, k5, dR, sR, nB, dN, sN, i1, i2, alF, neg1, L2]; try rfl) ?_
  simp only [excs]
  rfl
end
end EV
end
section
set_option maxRecDepth 100000
set_option autoImplicit false
namespace K70
open PySem L2 EV
def ix : Ix := ⟨[0, 1, 2, 3, 4, 5, 6, 7, 8, 9, 10, 11, 12, 13, 14, 15, 16, 17, 18, 19, 20, 21, 22, 23, 0, 0, 0, 0, 0, 0, 0, 0, 0, 0, 0, 0, 0, 0, 0, 0, 0, 0, 0, 0, 0, 0, 0, 0, 0, 0, 0, 0, 0, 0, 0, 0, 0, 0, 0, 0, 0, 0, 0, 0, 0, 0, 0, 0, 0, 0, 0, 0, 0, 0, 0, 0, 0, 0, 0, 0, 0, 0, 0, 0, 0, 0, 0, 0, 0, 0, 0, 0, 0, 0, 0, 0, 0, 0, 0, 0, 0, 0, 0, 0, 0, 0, 0, 0, 0, 0, 0, 0, 0, 0, 0, 0, 0, 0, 0, 0, 0, 0, 0, 0, 0, 0, 0, 0, 0, 0, 0, 0, 0, 0, 0, 0, 0, 0, 0, 0, 0, 0, 0, 0, 0, 0, 0, 0, 0, 0, 0, 0, 0, 0, 0, 0, 0, 0, 0, 0, 0, 0, 0, 0, 0, 0, 0, 0, 0, 0, 0, 0, 0, 0, 0, 0, 0, 0, 0, 0, 0, 0, 0, 0, 0, 0, 0, 0, 0, 0, 0, 0, 0, 0, 0, 0, 0, 0, 0, 0, 0, 0, 0, 0, 0, 0, 0, 0, 0, 0, 0, 0, 0, 0, 0, 0, 0, 0, 0, 0, 0, 0, 0, 0, 0, 0, 0, 0, 0, 0, 0, 0, 0, 0, 0, 0, 0, 0, 0, 0, 0, 0, 0, 0, 0, 0, 0, 0, 0, 0, 0, 0, 0, 0, 0, 0, 0, 0, 0, 0, 0, 0, 0, 0, 0, 0, 0, 0, 0, 0, 0, 0, 0, 0, 0, 0, 0, 0, 0, 0, 0, 0, 0, 0, 0, 0, 0, 0, 0, 0, 0, 0, 0, 0, 0, 0, 0, 0, 0, 0, 0, 0, 0, 0, 0, 0, 0, 0, 0, 0, 0, 0, 0, 0, 0, 0, 0, 0, 0, 0, 0, 0, 0, 0, 0, 0, 0, 0, 0, 0, 0, 0, 0, 0, 0, 0, 0, 0, 0, 0, 0, 0, 0, 0, 0, 0, 0, 0, 0, 0, 0, 0, 0, 0, 0, 0, 0, 0, 0, 0, 0, 0, 0, 0, 0, 0, 0, 0, 0, 0, 0, 0, 0, 0, 0, 0, 0, 0, 0, 0, 0, 0, 0, 0, 0, 0, 0, 0, 0, 0, 0, 0, 0, 0, 0, 0, 0, 0, 0, 0, 0, 0, 0, 0, 0, 0, 0, 0, 0, 0, 0, 0, 0, 0, 0, 0, 0, 0], [0, 1, 0, 0, 0, 0, 0, 0, 0, 0, 0, 0, 0, 0, 0, 0, 0, 0, 0, 0, 0, 0, 0, 0, 0, 0, 0, 0, 0, 0, 0, 0, 0, 0, 0, 0, 0, 0, 0, 0, 0, 0, 0, 0, 0, 0, 0, 0, 0, 0, 0, 0, 0, 0, 0, 0, 0, 0, 0, 0, 0, 0, 0, 0, 0, 0, 0, 0, 0, 0, 0, 0, 0, 0, 0, 0, 0, 0, 0, 0, 0, 0, 0, 0, 0, 0, 0, 0, 0, 0, 0, 0, 0, 0], [0, 0, 0, 0, 0, 0, 0, 0], [0, 0, 0, 0, 0, 0, 0, 0, 0, 0, 0, 0, 0, 0, 0, 0, 0, 0, 0, 0, 0, 0, 0, 0, 0, 0, 0, 0, 0, 0, 0, 0, 0, 0, 0, 0, 0, 0, 0, 0, 0, 0, 0, 0, 0, 0, 0, 0, 0, 0, 0, 0, 0, 0, 0, 0, 0, 0, 0, 0, 0, 0, 0, 0, 0, 0]⟩
def nm : Nm := ⟨[], [some "is_integer", some "is_within", some "is_pair", some "is_level", some "is_network", some "level_done", some "done", some "pairs_of", some "levelled", some "neighbours", some "merging", some "side_by_side", some "ordering", some "odd_even", some "order_cost", some "_law_bag", some "_law_take", some "_law_some", some "_law_alike", some "_law_merging", some "_law_in_levels", some "_law_halves", some "_law_through", some "law"], [], ["MOST_LEVELS", "PAIR"], []⟩
def defs : List Df := [Df_is_integer ix, Df_is_within ix, Df_is_pair ix, Df_is_level ix, Df_is_network ix, Df_level_done ix, Df_done ix, Df_pairs_of ix, Df_levelled ix, Df_neighbours ix, Df_merging ix, Df_side_by_side ix, Df_ordering ix, Df_odd_even ix, Df_order_cost ix, Df__law_bag ix, Df__law_take ix, Df__law_some ix, Df__law_alike ix, Df__law_merging ix, Df__law_in_levels ix, Df__law_halves ix, Df__law_through ix, Df_law ix]
def Ns : List (List Str) := [["thing"], ["thing", "least", "most"], ["many", "thing"], ["many", "thing", "places", "pair", "place"], ["many", "thing", "level"], ["level", "numbers", "found", "one", "other"], ["network", "numbers", "found", "level"], ["network", "level", "pair"], ["pairs", "free", "levels", "one", "other", "at", "level"], ["many", "level", "one"], ["one", "other", "found", "places"], ["one", "other", "found", "at", "level"], ["places", "half", "one", "other"], ["many"], ["many", "network", "level"], ["script", "cell"], ["bag", "many", "begin", "second", "cell", "stir", "value"], ["bag", "things"], ["found", "due", "pairs", "at", "one", "other"], ["one", "other", "every", "behind", "at"], ["pairs", "levels", "last", "i", "j", "at", "level"], ["places", "half", "found", "at", "one", "other", "some"], ["network", "numbers", "found", "level", "i", "j", "low", "high"], ["script", "bag", "turn", "many", "network", "pairs", "levels", "some", "row", "rows", "found", "short", "stride", "begin", "part", "at", "word"]]
def top (i : Nat) : PySem.Stmt := PySem.Challenge.pw_nolooking_k70_networks_at_the_greatest_s.main.body.getD i (.Pass ⟨0, 0, 0, 0⟩)
def d0 : He.DefD := ⟨("is_integer", none), "is_integer", "is_integer", L2.defArgs (top 1), L2.defBody (top 1), L2.defScope (top 1), [], []⟩
def d1 : He.DefD := ⟨("is_within", none), "is_within", "is_within", L2.defArgs (top 2), L2.defBody (top 2), L2.defScope (top 2), [], []⟩
def d2 : He.DefD := ⟨("is_pair", none), "is_pair", "is_pair", L2.defArgs (top 6), L2.defBody (top 6), L2.defScope (top 6), [], []⟩
def d3 : He.DefD := ⟨("is_level", none), "is_level", "is_level", L2.defArgs (top 7), L2.defBody (top 7), L2.defScope (top 7), [], []⟩
def d4 : He.DefD := ⟨("is_network", none), "is_network", "is_network", L2.defArgs (top 8), L2.defBody (top 8), L2.defScope (top 8), [], []⟩
def d5 : He.DefD := ⟨("level_done", none), "level_done", "level_done", L2.defArgs (top 9), L2.defBody (top 9), L2.defScope (top 9), [], []⟩
def d6 : He.DefD := ⟨("done", none), "done", "done", L2.defArgs (top 10), L2.defBody (top 10), L2.defScope (top 10), [], []⟩
def d7 : He.DefD := ⟨("pairs_of", none), "pairs_of", "pairs_of", L2.defArgs (top 11), L2.defBody (top 11), L2.defScope (top 11), [], []⟩
def d8 : He.DefD := ⟨("levelled", none), "levelled", "levelled", L2.defArgs (top 12), L2.defBody (top 12), L2.defScope (top 12), [], []⟩
def d9 : He.DefD := ⟨("neighbours", none), "neighbours", "neighbours", L2.defArgs (top 13), L2.defBody (top 13), L2.defScope (top 13), [], []⟩
def d10 : He.DefD := ⟨("merging", none), "merging", "merging", L2.defArgs (top 14), L2.defBody (top 14), L2.defScope (top 14), [], []⟩
def d11 : He.DefD := ⟨("side_by_side", none), "side_by_side", "side_by_side", L2.defArgs (top 15), L2.defBody (top 15), L2.defScope (top 15), [], []⟩
def d12 : He.DefD := ⟨("ordering", none), "ordering", "ordering", L2.defArgs (top 16), L2.defBody (top 16), L2.defScope (top 16), [], []⟩
def d13 : He.DefD := ⟨("odd_even", none), "odd_even", "odd_even", L2.defArgs (top 17), L2.defBody (top 17), L2.defScope (top 17), [], []⟩
def d14 : He.DefD := ⟨("order_cost", none), "order_cost", "order_cost", L2.defArgs (top 19), L2.defBody (top 19), L2.defScope (top 19), [], []⟩
def d15 : He.DefD := ⟨("_law_bag", none), "_law_bag", "_law_bag", L2.defArgs (top 21), L2.defBody (top 21), L2.defScope (top 21), [], []⟩
def d16 : He.DefD := ⟨("_law_take", none), "_law_take", "_law_take", L2.defArgs (top 22), L2.defBody (top 22), L2.defScope (top 22), [], []⟩
def d17 : He.DefD := ⟨("_law_some", none), "_law_some", "_law_some", L2.defArgs (top 23), L2.defBody (top 23), L2.defScope (top 23), [], []⟩
def d18 : He.DefD := ⟨("_law_alike", none), "_law_alike", "_law_alike", L2.defArgs (top 24), L2.defBody (top 24), L2.defScope (top 24), [], []⟩
def d19 : He.DefD := ⟨("_law_merging", none), "_law_merging", "_law_merging", L2.defArgs (top 25), L2.defBody (top 25), L2.defScope (top 25), [], []⟩
def d20 : He.DefD := ⟨("_law_in_levels", none), "_law_in_levels", "_law_in_levels", L2.defArgs (top 26), L2.defBody (top 26), L2.defScope (top 26), [], []⟩
def d21 : He.DefD := ⟨("_law_halves", none), "_law_halves", "_law_halves", L2.defArgs (top 27), L2.defBody (top 27), L2.defScope (top 27), [], []⟩
def d22 : He.DefD := ⟨("_law_through", none), "_law_through", "_law_through", L2.defArgs (top 28), L2.defBody (top 28), L2.defScope (top 28), [], []⟩
def d23 : He.DefD := ⟨("law", none), "law", "law", L2.defArgs (top 29), L2.defBody (top 29), L2.defScope (top 29), [], []⟩
def ds : List He.DefD := [d0, d1, d2, d3, d4, d5, d6, d7, d8, d9, d10, d11, d12, d13, d14, d15, d16, d17, d18, d19, d20, d21, d22, d23]
def cons : List EV.D := [.int 300, .int 2]
def lit : Lit := ⟨nm, defs, Ns, ds, cons, [], []⟩
theorem binds : ∀ (i : Nat) (df : Df) (d : He.DefD) (N : List Str), lit.defs[i]? = some df → lit.ds[i]? = some d → lit.Ns[i]? = some N → BindOk d (N.take df.np)
  | 0, _, _, _, rfl, rfl, rfl => fun _ _ _ _ _ _ us hl => match us, hl with | [_], _ => rfl
  | 1, _, _, _, rfl, rfl, rfl => fun _ _ _ _ _ _ us hl => match us, hl with | [_, _, _], _ => rfl
  | 2, _, _, _, rfl, rfl, rfl => fun _ _ _ _ _ _ us hl => match us, hl with | [_, _], _ => rfl
  | 3, _, _, _, rfl, rfl, rfl => fun _ _ _ _ _ _ us hl => match us, hl with | [_, _], _ => rfl
  | 4, _, _, _, rfl, rfl, rfl => fun _ _ _ _ _ _ us hl => match us, hl with | [_, _], _ => rfl
  | 5, _, _, _, rfl, rfl, rfl => fun _ _ _ _ _ _ us hl => match us, hl with | [_, _], _ => rfl
  | 6, _, _, _, rfl, rfl, rfl => fun _ _ _ _ _ _ us hl => match us, hl with | [_, _], _ => rfl
  | 7, _, _, _, rfl, rfl, rfl => fun _ _ _ _ _ _ us hl => match us, hl with | [_], _ => rfl
  | 8, _, _, _, rfl, rfl, rfl => fun _ _ _ _ _ _ us hl => match us, hl with | [_], _ => rfl
  | 9, _, _, _, rfl, rfl, rfl => fun _ _ _ _ _ _ us hl => match us, hl with | [_], _ => rfl
  | 10, _, _, _, rfl, rfl, rfl => fun _ _ _ _ _ _ us hl => match us, hl with | [_, _], _ => rfl
  | 11, _, _, _, rfl, rfl, rfl => fun _ _ _ _ _ _ us hl => match us, hl with | [_, _], _ => rfl
  | 12, _, _, _, rfl, rfl, rfl => fun _ _ _ _ _ _ us hl => match us, hl with | [_], _ => rfl
  | 13, _, _, _, rfl, rfl, rfl => fun _ _ _ _ _ _ us hl => match us, hl with | [_], _ => rfl
  | 14, _, _, _, rfl, rfl, rfl => fun _ _ _ _ _ _ us hl => match us, hl with | [_], _ => rfl
  | 15, _, _, _, rfl, rfl, rfl => fun _ _ _ _ _ _ us hl => match us, hl with | [_], _ => rfl
  | 16, _, _, _, rfl, rfl, rfl => fun _ _ _ _ _ _ us hl => match us, hl with | [_, _], _ => rfl
  | 17, _, _, _, rfl, rfl, rfl => fun _ _ _ _ _ _ us hl => match us, hl with | [_, _], _ => rfl
  | 18, _, _, _, rfl, rfl, rfl => fun _ _ _ _ _ _ us hl => match us, hl with | [_, _], _ => rfl
  | 19, _, _, _, rfl, rfl, rfl => fun _ _ _ _ _ _ us hl => match us, hl with | [_, _], _ => rfl
  | 20, _, _, _, rfl, rfl, rfl => fun _ _ _ _ _ _ us hl => match us, hl with | [_], _ => rfl
  | 21, _, _, _, rfl, rfl, rfl => fun _ _ _ _ _ _ us hl => match us, hl with | [_], _ => rfl
  | 22, _, _, _, rfl, rfl, rfl => fun _ _ _ _ _ _ us hl => match us, hl with | [_, _], _ => rfl
  | 23, _, _, _, rfl, rfl, rfl => fun _ _ _ _ _ _ us hl => match us, hl with | [_], _ => rfl
theorem look : defsC nm defs ds Ns = true := by decide +kernel
-- loose: ["__name__", "is_integer", "is_within", "__name__", "MOST_LEVELS", "PAIR", "is_pair", "is_level", "is_network", "level_done", "done", "pairs_of", "levelled", "neighbours", "merging", "side_by_side", "ordering", "odd_even", "__name__", "order_cost", "__name__", "_law_bag", "_law_take", "_law_some", "_law_alike", "_law_merging", "_law_in_levels", "_law_halves", "_law_through", "law"]
end K70
end
section
set_option maxRecDepth 100000
set_option maxHeartbeats 0
namespace K70
open PySem PySem.Spec PyProof.Rows L2 EV
abbrev R : PySem.W.OpenRow := PySem.W.OpenLaw.row PySem.Challenge.rw_nolooking_k70_networks_at_the_greatest_s
abbrev hk : PySem.W.Hook := He.hookD 5 lit.facts lit.ds
def ob (s : PySem.W.SharedT) : He.AlD := He.obsDG 5 lit.facts lit.ds (HandSHeadRun.getT s)
theorem ob_eq (s : PySem.W.SharedT) : ob s = hk.obs s.abs := He.obsDG_eq (HandSHeadRun.getT_eq s)
def loose : List Str := ["is_integer", "is_within", "MOST_LEVELS", "PAIR", "is_pair", "is_level", "is_network", "level_done", "done", "pairs_of", "levelled", "neighbours", "merging", "side_by_side", "ordering", "odd_even", "order_cost", "_law_bag", "_law_take", "_law_some", "_law_alike", "_law_merging", "_law_in_levels", "_law_halves", "_law_through"]
abbrev pl : Nat := 29
theorem run (w : World) : HandSHeadRun.RunEq R (PySem.W.view R.prog [pl]) hk ob 3000 loose w := by
  intro os
  kernel_rfl
end K70
end
section
set_option maxRecDepth 100000
set_option autoImplicit false
set_option maxHeartbeats 16000000
/-! law k70: the law -/
namespace EV
open PySem L2 Nw
section
variable {pg : Pg} {x : Ix}
theorem k70_run (H : K70Fns pg x) (h0 : pg.defs[x.f F.law]? = some (Df_law x)) {J : Nat} (hJ : 31 ≤ J) (ns : List Int) (hn : ns.length ≤ 63) : ∃ S', run pg J (x.f F.law) [.slst (ns.map .int)] 0 [] = some (.bl true, S') := by
  obtain ⟨J, rfl⟩ : ∃ j, J = j + 1 := ⟨J - 1, by omega⟩
  obtain ⟨S1, a1, a2, a3, a4⟩ := bag_ok H.hlp.bag (J := J) (by omega) 0 ns hn []
  simp only [List.length_nil] at a1 a2 a3
  have s2 : ∀ (S' : Sto) (ρ : En), evi (clJ pg J) 0 (law_s2 x) ρ S' = some (((List.range 2).map nI, []), S') := fun S' ρ => by
    refine rng1 (n := 2) ?_ (by omega)
    simp only [excs, exc, ev, evs, evo, evi, evt, asg, asgs, dOf_d, dOf_fl, tOf_some, Option.bind_some, Option.map_some, Option.bind_none, Option.map_none, bfun, EV.b1, EV.b2, setMany, plOf, seqOf, tupOf, lstOf, lsmOf, truth, cmpop, ltD, EV.i2, List.map_cons, List.map_nil, List.length_cons, List.length_nil, Nat.reduceAdd, Nat.reduceLT, Nat.reduceSub, if_true, if_false, Bool.false_eq_true, List.set_cons_zero, List.set_cons_succ, List.getElem?_cons_succ, List.getElem?_cons_zero, Option.join_some, List.cons_append, List.nil_append, List.replicate, decide_true, decide_false, Bool.not_true, Bool.not_false, reduceCtorEq]
    rfl
  have c := for_inv (tg := fun d ρ S' => asg (clJ pg J) 0 (law_t1 x) d ρ S') (body := fun ρ S' => excs (clJ pg J) 0 (law_b24 x) ρ S') (ws := []) (S0 := S1) nI
    (fun (d : List Nat) ρ S' => Bag S' 0 (10 * d.length) ∧ ∃ v0 v2 r3 r4 r5 r6 r7 r8 r9 r10 r11 r12 r13 r14 r15 r16, ρ = [v0, some (.loc 0), v2, r3, r4, r5, r6, r7, r8, r9, r10, r11, r12, r13, r14, r15, r16]) (fun _ _ _ _ => rfl) (List.range 2) []
    [some (.slst (ns.map .int)), some (.loc 0), none, none, none, none, none, none, none, none, none, none, none, none, none, none, none] S1 ⟨a3.mono (by simp), _, _, _, _, _, _, _, _, _, _, _, _, _, _, _, _, rfl⟩ (fun d i r ρ S' hd hI => by
      obtain ⟨hb, v0, v2, r3, r4, r5, r6, r7, r8, r9, r10, r11, r12, r13, r14, r15, r16, rfl⟩ := hI
      have hdl : d.length < 2 := by
        have := congrArg List.length hd
        simp at this
        omega
      obtain ⟨S2, y3, y4, y5, y6, y7, y8, y9, y10, y11, y12, y13, y14, y15, y16, h1, h2⟩ := turn_run H (J := J) (by omega) S' hb (by omega) v0 (some (nI i)) r3 r4 r5 r6 r7 r8 r9 r10 r11 r12 r13 r14 r15 r16
      refine ⟨_, S2, ?_, h1.mono (by rw [List.length_append, List.length_singleton]; omega), v0, some (nI i), y3, y4, y5, y6, y7, y8, y9, y10, y11, y12, y13, y14, y15, y16, rfl⟩
      simp only [law_t1, asg, List.length_cons, List.length_nil, Nat.reduceAdd, Nat.reduceLT, if_true, Option.bind_some, List.set_cons_succ, List.set_cons_zero, h2])
  obtain ⟨ρ', S', c1, c2, c3⟩ := c
  have hb : excs (clJ pg J) 0 (B_law x) ([EV.D.slst (ns.map .int)].map some ++ List.replicate (17 - 1) none) [] = some (.rt (.bl true) S') := by
    unfold B_law
    refine excs_nx (by simp only [excs, exc, ev, evs, evo, evi, evt, asg, asgs, dOf_d, dOf_fl, tOf_some, Option.bind_some, Option.map_some, Option.bind_none, Option.map_none, bfun, EV.b1, EV.b2, setMany, plOf, seqOf, tupOf, lstOf, lsmOf, truth, cmpop, ltD, EV.i2, List.map_cons, List.map_nil, List.length_cons, List.length_nil, Nat.reduceAdd, Nat.reduceLT, Nat.reduceSub, if_true, if_false, Bool.false_eq_true, List.set_cons_zero, List.set_cons_succ, List.getElem?_cons_succ, List.getElem?_cons_zero, Option.join_some, List.cons_append, List.nil_append, List.replicate, decide_true, decide_false, Bool.not_true, Bool.not_false, reduceCtorEq, a1]; try rfl) ?_
    refine excs_nx (by simp only [exc, s2, Option.bind_some]; exact c1) ?_
    simp only [excs, exc, ev, evs, evo, evi, evt, asg, asgs, dOf_d, dOf_fl, tOf_some, Option.bind_some, Option.map_some, Option.bind_none, Option.map_none, bfun, EV.b1, EV.b2, setMany, plOf, seqOf, tupOf, lstOf, lsmOf, truth, cmpop, ltD, EV.i2, List.map_cons, List.map_nil, List.length_cons, List.length_nil, Nat.reduceAdd, Nat.reduceLT, Nat.reduceSub, if_true, if_false, Bool.false_eq_true, List.set_cons_zero, List.set_cons_succ, List.getElem?_cons_succ, List.getElem?_cons_zero, Option.join_some, List.cons_append, List.nil_append, List.replicate, decide_true, decide_false, Bool.not_true, Bool.not_false, reduceCtorEq]
  exact ⟨_, run_d h0 rfl hb (fin_val rfl rfl)⟩
end
end EV
end
set_option maxRecDepth 100000
set_option maxHeartbeats 0
namespace K70
open PySem PySem.Spec PyProof.Rows L2 EV
theorem litok : lit.Ok := ⟨look, by decide +kernel, binds⟩
theorem fns : K70Fns lit.pg ix where
  form := ⟨⟨rfl, rfl⟩, rfl, rfl, rfl, rfl, rfl⟩
  done := ⟨rfl, rfl⟩
  make := ⟨rfl, rfl, rfl, rfl, rfl, rfl⟩
  lnet := ⟨rfl, rfl⟩
  hlp := ⟨rfl, rfl, rfl, rfl⟩
  pairs_of := rfl
  order_cost := rfl
  neighbours := rfl
  halves := rfl
  through := rfl
theorem hrun : ∀ ns : List Int, ns.length ≤ 63 → ∃ S', EV.run lit.pg 40 23 [.slst (ns.map .int)] 0 [] = some (.bl true, S') := fun ns hn => k70_run fns rfl (J := 40) (by omega) ns hn
end K70
open PySem PySem.W PySem.Calls PyProof.Rows
theorem PySem.Challenge.cw_nolooking_k70_networks_at_the_greatest_s_holds : PySem.Challenge.rw_nolooking_k70_networks_at_the_greatest_s.Holds := by
  w_on; o_law
  refine HandSHeadRun.head_any (r := K70.R) (q := view K70.R.prog [K70.pl]) (H := K70.hk) (ob := K70.ob) (M := 3000) (loose := K70.loose) (d := HandSHeadRun.topDef K70.R.prog K70.pl) (kwd := []) K70.ob_eq
    (by kernel_rfl) (fun s => by kernel_rfl) K70.run (by kernel_rfl) (by kernel_rfl) (by kernel_rfl) (by rfl) (by first | assumption | decide +kernel) (by decide +kernel) ⟨rfl, rfl, rfl, rfl, rfl, by decide +kernel⟩ ?hw ?hc
  case hw => w_witness2
  case hc =>
    refine L2.walk_ofE (l := PySem.Challenge.rw_nolooking_k70_networks_at_the_greatest_s) (n := 63) (k := 2 * 40) (x := "script") (CX := C8.CX0) rfl (by decide) (by kernel_rfl) ⟨rfl, by decide, by decide⟩ ?F (fun _ _ _ _ z => z)
    intro w mg fa h Y G hmg0
    have hmg : mg ("law" : PySem.Str) = some (.ref fa) := by
      have e : (HandSHeadRun.topDef K70.R.prog K70.pl).name = ("law" : PySem.Str) := by kernel_rfl
      rw [← e]
      exact hmg0
    exact EV.lit_F (L := 23) (J := 40) (z := 5) (nm := "law") K70.litok rfl rfl rfl rfl (by rfl) rfl rfl K70.hrun Y G hmg
