import PyProof.Rows.All
import Wide.All
import OpenK.AllK
import Wide.FinOn
import HandS.ForMost
import HandS.Exc
import HandS.TryOnly
import HandS.ExcOwn
import HandS.WordsExc
import HandS.Defaults
import HandS.IsInst
import HandS.SetFor
import HandS.SetKeys
import HandS.TupLe
import HandS.Deep
import HandS.HeadHook1
import HandS.HeadHook2
import KE.KDictCopyH
import KE.KDictList
import KE.GoesRaise
import HandS.Hot
import HandS.HeadHook4
import PySem.Challenge.RW_kithwhole_k99_steps_make_at_most_2000_ro
import KE.KStateDown
import Lean
import HandS.Base
import HandS.Call
import HandS.Ends
import HandS.More
import HandS.Words
import HandS.Head0
import HandS.Head1
import HandS.Head2
import HandS.HeadEnd
set_option Elab.async false
set_option linter.all false
set_option maxRecDepth 100000
/-! Ev0: a small language of Python's forms and its evaluator in plain Lean. -/
namespace Ev
open PySem

/-- a value: tuples are data, what may change is an index into the list of objects -/
inductive D where
  | non | bl (b : Bool) | int (i : Int) | str (s : Str) | tup (ds : List D) | ref (n : Nat) | kt (ds : List D) | kl (ds : List D)
  deriving Inhabited

mutual
def D.same : D → D → Bool
  | .non, .non => true
  | .bl a, .bl b => a == b
  | .int a, .int b => decide (a = b)
  | .str a, .str b => decide (a = b)
  | .tup a, .tup b => D.sames a b
  | .ref a, .ref b => decide (a = b)
  | .kt a, .kt b => D.sames a b
  | .kl a, .kl b => D.sames a b
  | _, _ => false
def D.sames : List D → List D → Bool
  | [], [] => true
  | a :: r, b :: t => D.same a b && D.sames r t
  | _, _ => false
end
mutual
theorem D.same_self : ∀ a : D, D.same a a = true
  | .non => rfl
  | .bl a => by simp [D.same]
  | .int a => by simp [D.same]
  | .str a => by simp [D.same]
  | .tup a => by simp [D.same, D.sames_self a]
  | .ref a => by simp [D.same]
  | .kt a => by simp [D.same, D.sames_self a]
  | .kl a => by simp [D.same, D.sames_self a]
theorem D.sames_self : ∀ a : List D, D.sames a a = true
  | [] => rfl
  | a :: r => by simp [D.sames, D.same_self a, D.sames_self r]
end
mutual
theorem D.of_same : ∀ a b : D, D.same a b = true → a = b
  | .non, b, h => by cases b <;> simp [D.same] at h; rfl
  | .bl a, b, h => by cases b <;> simp [D.same] at h; simp [h]
  | .int a, b, h => by cases b <;> simp [D.same] at h; simp [h]
  | .str a, b, h => by cases b <;> simp [D.same] at h; simp [h]
  | .tup a, b, h => by cases b <;> simp [D.same] at h; rename_i b; rw [D.of_sames a b h]
  | .ref a, b, h => by cases b <;> simp [D.same] at h; simp [h]
  | .kt a, b, h => by cases b <;> simp [D.same] at h; rename_i b; rw [D.of_sames a b h]
  | .kl a, b, h => by cases b <;> simp [D.same] at h; rename_i b; rw [D.of_sames a b h]
theorem D.of_sames : ∀ a b : List D, D.sames a b = true → a = b
  | [], b, h => by cases b <;> simp [D.sames] at h; rfl
  | a :: r, b, h => by
    cases b with
    | nil => simp [D.sames] at h
    | cons b t => simp [D.sames] at h; rw [D.of_same a b h.1, D.of_sames r t h.2]
end
instance : DecidableEq D := fun a b => decidable_of_iff (D.same a b = true) ⟨D.of_same a b, fun e => e ▸ D.same_self a⟩

/-- an object -/
inductive Ob where
  | lst (ds : List D)
  | dk (kvs : List (L2.Key × D))
  | dt (kvs : List (List L2.Key × D))
  | ins (c : Str) (fs : List (Str × D))
  | frz (o : Ob)
  deriving Inhabited, DecidableEq

abbrev Hb := List Ob
abbrev En := List (Option D)

inductive Res (α : Type) where
  | ok (a : α) (h : Hb)
  | exc (c : Str) (fs : List (Str × D)) (h : Hb)
abbrev RO (α : Type) := Option (Res α)

@[inline] def bnd {α β : Type} (r : RO α) (f : α → Hb → RO β) : RO β :=
  match r with
  | none => none
  | some (.ok a h) => f a h
  | some (.exc c fs h) => some (.exc c fs h)

/-- built-in functions and types that are called -/
inductive Bi where
  | len | int | str | tuple | list | max | sum | any | abs
  deriving DecidableEq, Inhabited
/-- methods of built-in types -/
inductive Bm where
  | append | extend | setd | count | get2
  deriving DecidableEq, Inhabited
/-- types that isinstance asks for -/
inductive Ty where
  | int | bool | str | tuple | list
  deriving DecidableEq, Inhabited
/-- targets of loops -/
inductive Tg where
  | nm (i : Nat)
  | tu (is : List Nat)
  deriving DecidableEq, Inhabited

mutual
inductive Ex where
  | var (i : Nat)
  | int (i : Int)
  | bl (b : Bool)
  | non
  | str (s : Str)
  | gint (x : Str) (i : Int)
  | gtup (x : Str) (ds : List D)
  | bin (op : Operator) (a b : Ex)
  | neg (a : Ex)
  | notv (a : Ex)
  | andv (a b : Ex)
  | orv (a b : Ex)
  | cmp (op : CmpOp) (a b : Ex)
  | chain (op op' : CmpOp) (a b c : Ex)
  | ite (c : Tx) (a b : Ex)
  | call (f : Str) (es : ExL)
  | make (c : Str) (es : ExL)
  | meth (o : Ex) (m : Str) (es : ExL)
  | blt (f : Bi) (es : ExL)
  | isin (a : Ex) (ts : List Ty) (one : Bool)
  | bm (m : Bm) (o : Ex) (es : ExL)
  | fld (o : Ex) (f : Str)
  | idx (o i : Ex)
  | slc (o : Ex) (lo hi : OEx)
  | tup (es : ExL)
  | lst (es : ExL)
  | dnewT
  | dnewK
  | disp (ks : List Str) (es : ExL)
  | lvals (i : Nat)
  | comp (x : Bool) (g : Tg) (it : Itx) (c : Tx) (e : Ex)
  | comp2 (g : Tg) (it : Itx) (g2 : Tg) (it2 : Itx) (c : Tx) (e : Ex)
  | bad
inductive ExL where
  | nil
  | cons (e : Ex) (es : ExL)
inductive OEx where
  | none
  | some (e : Ex)
inductive Tx where
  | and (a b : Tx)
  | or (a b : Tx)
  | not (a : Tx)
  | ex (e : Ex)
  | cmp (op : CmpOp) (a b : Ex)
  | yes
inductive Itx where
  | val (e : Ex)
  | rng (a b : Ex)
  | rng1 (a : Ex)
  | enum (e : Ex)
  | zip (a b : Ex)
end

/-- targets of assignments -/
inductive At where
  | tg (g : Tg)
  | fld (o : Ex) (c f : Str)
  | sub (o i : Ex)

mutual
inductive Sx where
  | expr (e : Ex)
  | ret (e : Ex)
  | retN
  | asg (t : At) (e : Ex)
  | par (i j : Nat) (a b : Ex)
  | aug (i : Nat) (op : Operator) (e : Ex)
  | augF (o : Ex) (c f : Str) (op : Operator) (e : Ex)
  | augS (o i : Ex) (op : Operator) (e : Ex)
  | ifs (c : Tx) (a b : SxL)
  | fors (g : Tg) (it : Itx) (b : SxL)
  | forV (g : Tg) (i : Nat) (b : SxL)
  | whil (c : Tx) (b : SxL)
  | raise (c : Str)
  | tryO (c : Str) (b s : SxL)
  | brk | cont | pass | bad
inductive SxL where
  | nil
  | cons (s : Sx) (ss : SxL)
end

/-! ### values -/
def scalar : D → Bool
  | .tup _ => false
  | .ref _ => false
  | .kt _ => false
  | .kl _ => false
  | _ => true

/-- the data of a value, as == and in look at it -/
def toPy : Nat → Hb → D → Option PyData
  | 0, _, _ => none
  | n + 1, h, d => match d with
    | .non => some .none
    | .bl b => some (.bool b)
    | .int i => some (.int i)
    | .str s => some (.str s)
    | .tup ds => (ds.mapM (toPy n h)).map .tuple
    | .ref k => match h[k]? with
      | some (.lst ds) => (ds.mapM (toPy n h)).map .list
      | _ => none
    | .kt ds => (ds.mapM (toPy n h)).map .tuple
    | .kl _ => none

/-- scalars that == tells apart as data does -/
def scalEq : D → D → Option Bool
  | .non, .non => some true
  | .non, .int _ | .int _, .non | .non, .bl _ | .bl _, .non | .non, .str _ | .str _, .non => some false
  | .int i, .int j => some (decide (i = j))
  | .bl i, .bl j => some (decide (i = j))
  | .str i, .str j => some (decide (i = j))
  | .int _, .str _ | .str _, .int _ | .bl _, .str _ | .str _, .bl _ => some false
  | _, _ => none

def deepEq (h : Hb) (x y : D) : Option Bool :=
  match toPy 60 h x, toPy 60 h y with
  | some a, some b => if SeqAt.shaped a = true ∧ SeqAt.shaped b = true then some (PyData.eqv a b) else none
  | _, _ => none

def eqD (h : Hb) (x y : D) : Option Bool :=
  if scalar x = true ∧ scalar y = true then scalEq x y else deepEq h x y

/-- the items of a list -/
def items (h : Hb) (n : Nat) : Option (List D) :=
  match h[n]? with
  | some (.lst ds) => some ds
  | _ => none

/-- flat data: what in over a sequence looks at without more -/
def flat : D → Bool
  | .non | .int _ | .str _ | .bl _ => true
  | _ => false
def flatEq : D → D → Bool
  | .non, .non => true
  | .bl a, .bl b => a == b
  | .bl a, .int b => (if a then 1 else 0) == b
  | .int a, .bl b => a == (if b then 1 else 0)
  | .int i, .int j => i == j
  | .str i, .str j => i == j
  | _, _ => false

def inTup (h : Hb) (x y : D) (ds : List D) : Option Bool :=
  if flat x = true ∧ ds.all flat = true then some (ds.any fun d => flatEq d x)
  else match toPy 60 h x, toPy 60 h y with
    | some a, some (.tuple bs) => if SeqAt.shaped a = true ∧ SeqAt.shaped (.tuple bs) = true then some (bs.any fun b => PyData.eqv b a) else none
    | _, _ => none
def inD (h : Hb) (x y : D) : Option Bool :=
  match y with
  | .tup ds => inTup h x (.tup ds) ds
  | .kt ds => inTup h x (.kt ds) ds
  | .ref n => match items h n with
    | some ds =>
      if flat x = true ∧ ds.all flat = true then some (ds.any fun d => flatEq d x)
      else match toPy 60 h x, toPy 60 h y with
        | some a, some (.list bs) => if SeqAt.shaped a = true ∧ SeqAt.shaped (.list bs) = true then some (bs.any fun b => PyData.eqv b a) else none
        | _, _ => none
    | none => none
  | _ => none

def isD : D → D → Option Bool
  | x, .non => some (decide (x = .non))
  | .non, .bl _ => some false
  | .int _, .bl _ => some false
  | .str _, .bl _ => some false
  | .bl i, .bl j => some (decide (i = j))
  | _, _ => none

def cmpD (op : CmpOp) (h : Hb) (x y : D) : Option Bool :=
  match op with
  | .Eq => eqD h x y
  | .NotEq => (eqD h x y).map not
  | .In => inD h x y
  | .NotIn => (inD h x y).map not
  | .Is => isD x y
  | .IsNot => (isD x y).map not
  | .Lt => match x, y with | .int i, .int j => some (decide (i < j)) | _, _ => none
  | .LtE => match x, y with | .int i, .int j => some (decide (i ≤ j)) | _, _ => none
  | .Gt => match x, y with | .int i, .int j => some (decide (j < i)) | _, _ => none
  | .GtE => match x, y with | .int i, .int j => some (decide (j ≤ i)) | _, _ => none

def small64 (i : Int) : Bool := decide (-(2 ^ 64) < i ∧ i < 2 ^ 64)

/-- an operator: a value, or a new list -/
inductive Nv where
  | v (d : D)
  | l (ds : List D)

def binD (op : Operator) (h : Hb) (x y : D) : Option Nv :=
  match op, x, y with
  | .Add, .int i, .int j => some (.v (.int (i + j)))
  | .Add, .str i, .str j => if i.length + j.length ≤ sizeLine then some (.v (.str (i ++ j))) else none
  | .Add, .tup xs, .tup ys => if xs ≠ [] ∧ xs.length + ys.length ≤ sizeLine then some (.v (.tup (xs ++ ys))) else none
  | .Add, .ref n, .ref m => match h[n]?, h[m]? with
    | some (.lst xs), some (.lst ys) => if xs.length + ys.length ≤ sizeLine then some (.l (xs ++ ys)) else none
    | _, _ => none
  | .Sub, .int i, .int j => some (.v (.int (i - j)))
  | .Mult, .int i, .int j => if small64 i = true ∨ small64 j = true then some (.v (.int (i * j))) else none
  | .FloorDiv, .int i, .int j => if 0 < j ∧ j < 1073741824 then some (.v (.int (i / j))) else none
  | .Mod, .int i, .int j => if 0 < j then some (.v (.int (i % j))) else none
  | .Pow, .int i, .int j => if 0 ≤ j ∧ j ≤ 1000000 ∧ i.natAbs < 2 ^ 64 then some (.v (.int (i ^ j.toNat))) else none
  | _, _, _ => none

def nvRes : Option Nv → Hb → RO D
  | some (.v d), h => some (.ok d h)
  | some (.l ds), h => some (.ok (.ref h.length) (h ++ [.lst ds]))
  | none, _ => none

/-- truth of a value -/
def tru (h : Hb) : D → Option Bool
  | .non => some false
  | .bl b => some b
  | .int i => some (i != 0)
  | .str s => if s.length ≤ sizeLine then some ((s.length : Int) != 0) else none
  | .tup ds => some (!ds.isEmpty)
  | .kt _ => none
  | .kl _ => none
  | .ref n => match h[n]? with
    | some (.lst ds) => some (!ds.isEmpty)
    | _ => none

def ixD {α : Type} (xs : List α) (i : Int) : Option α := L2.atI xs i

def getK (kvs : List (L2.Key × D)) (k : L2.Key) : Option D := (kvs.find? fun kv => decide (kv.1 = k)).map (·.2)
def idxD (h : Hb) (x y : D) : Option D :=
  match x, y with
  | .tup ds, .int i => ixD ds i
  | .str s, .int i => if s.length ≤ sizeLine then (ixD s.cps.toList i).map fun c => .str ⟨#[c]⟩ else none
  | .ref n, .int i => match h[n]? with
    | some (.lst ds) => ixD ds i
    | _ => none
  | .ref n, .str s => match h[n]? with
    | some (.dk kvs) => getK kvs (Sum.inr s)
    | _ => none
  | _, _ => none

def cutD {α : Type} (xs : List α) (lo hi : Option Int) : List α := (xs.drop (HT.sIx xs.length 0 lo)).take (HT.sIx xs.length xs.length hi - HT.sIx xs.length 0 lo)

def slcD (h : Hb) (x : D) (lo hi : Option Int) : Option Nv :=
  match x with
  | .tup ds => if cutD ds lo hi = ds then none else some (.v (.tup (cutD ds lo hi)))
  | .ref n => match items h n with
    | some ds => some (.l (cutD ds lo hi))
    | none => none
  | _ => none

def asInts : List D → Option (List Int)
  | [] => some []
  | .int i :: r => (asInts r).map (i :: ·)
  | _ :: _ => none

def bltD (f : Bi) (h : Hb) (ds : List D) : Option Nv :=
  match f, ds with
  | .len, [.tup xs] => some (.v (.int xs.length))
  | .len, [.str s] => if s.length ≤ sizeLine then some (.v (.int s.length)) else none
  | .len, [.ref n] => (items h n).map fun xs => .v (.int xs.length)
  | .int, [.int i] => some (.v (.int i))
  | .int, [.bl b] => some (.v (.int (if b then 1 else 0)))
  | .str, [.int i] => if i.natAbs.log2 < 1920 then some (.v (.str (toString i))) else none
  | .tuple, [.ref n] => (items h n).map fun xs => .v (.tup xs)
  | .tuple, [.tup xs] => some (.v (.tup xs))
  | .list, [.ref n] => (items h n).map fun xs => .l xs
  | .list, [.tup xs] => some (.l xs)
  | .list, [.kl xs] => some (.l xs)
  | .max, [.int i, .int j] => some (.v (.int (if j > i then j else i)))
  | .max, [.int i, .int j, .int k] => some (.v (.int (if k > (if j > i then j else i) then k else (if j > i then j else i))))
  | .sum, [.ref n] => match items h n with
    | some xs => (asInts xs).map fun is => .v (.int is.sum)
    | none => none
  | .abs, [.int i] => some (.v (.int (if i < 0 then -i else i)))
  | _, _ => none

inductive Tn where
  | none | bool | int | str | tuple | list
  deriving DecidableEq, Inhabited
def tyOf (h : Hb) : D → Option Tn
  | .non => some .none
  | .bl _ => some .bool
  | .int _ => some .int
  | .str _ => some .str
  | .tup _ => some .tuple
  | .kt _ => none
  | .kl _ => none
  | .ref n => (items h n).map fun _ => .list
def kitD : Tn → Ty → Bool
  | .bool, .bool | .bool, .int | .int, .int | .str, .str | .tuple, .tuple | .list, .list => true
  | _, _ => false
def isAny (h : Hb) (d : D) (ts : List Ty) : Option Bool := (tyOf h d).map fun t => ts.any fun T => kitD t T

/-- keys of dicts -/
def keyOf : D → Option L2.Key
  | .int i => some (.inl i)
  | .str s => some (.inr s)
  | _ => none
def keysOf : List D → Option (List L2.Key)
  | [] => some []
  | d :: r => match keyOf d, keysOf r with
    | some k, some ks => some (k :: ks)
    | _, _ => none
def getV {κ α : Type} [DecidableEq κ] (kvs : List (κ × α)) (k : κ) : Option α := (kvs.find? fun kv => decide (kv.1 = k)).map (·.2)
/-- what a method asks of its object ahead of the arguments -/
def bmT (m : Bm) (h : Hb) (x : D) : Bool :=
  match m, x with
  | .append, .ref n | .extend, .ref n | .count, .ref n => (items h n).isSome
  | .setd, .ref n => match h[n]? with | some (.dt _) => true | _ => false
  | _, _ => false

def bmD (m : Bm) (h : Hb) (x : D) (ds : List D) : Option (D × Hb) :=
  match m, x, ds with
  | .append, .ref n, [d] => match h[n]? with
    | some (.lst xs) => if xs.length < sizeLine then some (.non, h.set n (.lst (xs ++ [d]))) else none
    | _ => none
  | .extend, .ref n, [.tup ys] => match h[n]? with
    | some (.lst xs) => if xs.length + ys.length ≤ sizeLine then some (.non, h.set n (.lst (xs ++ ys))) else none
    | _ => none
  | .extend, .ref n, [.ref m] => match h[n]?, h[m]? with
    | some (.lst xs), some (.lst ys) => if n ≠ m ∧ xs.length + ys.length ≤ sizeLine then some (.non, h.set n (.lst (xs ++ ys))) else none
    | _, _ => none
  | .setd, .ref n, [.tup ks, d] => match h[n]?, keysOf ks with
    | some (.dt kvs), some k => if kvs.length < sizeLine then (match getV kvs k with
      | some v => some (v, h)
      | none => some (d, h.set n (.dt (kvs ++ [(k, d)])))) else none
    | _, _ => none
  | .count, .ref n, [.int i] => match items h n with
    | some xs => match asInts xs with
      | some is => some (.int (is.count i), h)
      | none => none
    | none => none
  | _, _, _ => none

/-! ### names -/
def getVar (ρ : En) (i : Nat) : Option D := match ρ[i]? with
  | some (some d) => some d
  | _ => none
def setVar (ρ : En) (i : Nat) (d : D) : En := ρ.set i (some d)
def bindTg (ρ : En) : Tg → D → Option En
  | .nm i, d => some (setVar ρ i d)
  | .tu is, .tup ds => if is.length = ds.length then some ((is.zip ds).foldl (fun ρ p => setVar ρ p.1 p.2) ρ) else none
  | _, _ => none
def Tg.slots : Tg → List Nat
  | .nm i => [i]
  | .tu is => is
def wipe (ρ : En) : List Nat → En
  | [] => ρ
  | v :: vs => (wipe ρ vs).set v none

/-! ### what loops walk -/
inductive It where
  | lst (n : Nat)
  | tup (ds : List D)
  | rng (lo : Int) (n : Nat)
  | enum (n : Nat)
  | zip (n m : Nat)
/-- at turn i: none: stuck; some none: the end; some (some d): an item -/
def It.at (h : Hb) (i : Nat) : It → Option (Option D)
  | .lst n => (items h n).map fun ds => ds[i]?
  | .tup ds => some ds[i]?
  | .rng lo n => some (if i < n then some (.int (lo + i)) else none)
  | .enum n => (items h n).map fun ds => (ds[i]?).map fun d => .tup [.int i, d]
  | .zip n m => match items h n, items h m with
    | some xs, some ys => some (match xs[i]?, ys[i]? with
      | some x, some y => some (.tup [x, y])
      | _, _ => none)
    | _, _ => none
/-- a bound of the turns -/
def It.size (h : Hb) : It → Nat
  | .lst n => ((items h n).getD []).length
  | .tup ds => ds.length
  | .rng _ n => n
  | .enum n => ((items h n).getD []).length
  | .zip n _ => ((items h n).getD []).length

def fits62 (i : Int) : Bool := decide (-(2 ^ 62) ≤ i ∧ i < 2 ^ 62)

/-! ### the evaluator -/
/-- what a call of ("", f), of a method (C, m) does -/
structure Fn where
  run : Str → Str → List D → Hb → RO D
  has : Str → Str → Bool

/-- a comprehension's turns -/
def compLoop (it : It) (g : Tg) (c : En → Hb → RO Bool) (e : En → Hb → RO D) (ρ : En) : Nat → Nat → List D → Hb → RO (List D)
  | 0, _, _, _ => none
  | n + 1, i, acc, h => match it.at h i with
    | none => none
    | some none => some (.ok acc h)
    | some (some d) => match bindTg ρ g d with
      | none => none
      | some ρ' => bnd (c ρ' h) fun b h1 => match b with
        | true => bnd (e ρ' h1) fun x h2 => if acc.length < sizeLine then compLoop it g c e ρ n (i + 1) (acc ++ [x]) h2 else none
        | false => compLoop it g c e ρ n (i + 1) acc h1

/-- .. of two fors: the inner one's items are made anew at each turn of the outer one -/
def compLoop2 (it : It) (g : Tg) (inner : En → List D → Hb → RO (List D)) (ρ : En) : Nat → Nat → List D → Hb → RO (List D)
  | 0, _, _, _ => none
  | n + 1, i, acc, h => match it.at h i with
    | none => none
    | some none => some (.ok acc h)
    | some (some d) => match bindTg ρ g d with
      | none => none
      | some ρ' => bnd (inner ρ' acc h) fun acc' h1 => compLoop2 it g inner ρ n (i + 1) acc' h1

/-- no exception -/
def noX {α : Type} (r : RO α) : RO α :=
  match r with
  | some (.ok a h) => some (.ok a h)
  | _ => none
def okX {α : Type} (x : Bool) (r : RO α) : RO α := match x with
  | true => r
  | false => noX r
def newList (ds : List D) (h : Hb) : RO D := some (.ok (.ref h.length) (h ++ [.lst ds]))

section
variable (F : Fn)
mutual
def evE : Ex → En → Hb → RO D
  | .var i, ρ, h => match getVar ρ i with
    | some d => some (.ok d h)
    | none => none
  | .int i, _, h => some (.ok (.int i) h)
  | .bl b, _, h => some (.ok (.bl b) h)
  | .non, _, h => some (.ok .non h)
  | .str s, _, h => some (.ok (.str s) h)
  | .gint _ i, _, h => some (.ok (.int i) h)
  | .gtup _ ds, _, h => some (.ok (.kt ds) h)
  | .bin op a b, ρ, h => bnd (evE a ρ h) fun x h1 => bnd (evE b ρ h1) fun y h2 => nvRes (binD op h2 x y) h2
  | .neg a, ρ, h => bnd (evE a ρ h) fun x h1 => match x with
    | .int i => some (.ok (.int (-i)) h1)
    | _ => none
  | .notv a, ρ, h => bnd (evE a ρ h) fun x h1 => match x with
    | .bl b => some (.ok (.bl (!b)) h1)
    | _ => none
  | .andv a b, ρ, h => bnd (evE a ρ h) fun x h1 => match x with
    | .bl true => evE b ρ h1
    | .bl false => some (.ok (.bl false) h1)
    | _ => none
  | .orv a b, ρ, h => bnd (evE a ρ h) fun x h1 => match x with
    | .bl true => some (.ok (.bl true) h1)
    | .bl false => evE b ρ h1
    | _ => none
  | .cmp op a b, ρ, h => bnd (evE a ρ h) fun x h1 => bnd (evE b ρ h1) fun y h2 => match cmpD op h2 x y with
    | some c => some (.ok (.bl c) h2)
    | none => none
  | .chain op op' a b c, ρ, h => bnd (evE a ρ h) fun x h1 => bnd (evE b ρ h1) fun y h2 => match cmpD op h2 x y with
    | some true => bnd (evE c ρ h2) fun z h3 => match cmpD op' h3 y z with
      | some c => some (.ok (.bl c) h3)
      | none => none
    | some false => some (.ok (.bl false) h2)
    | none => none
  | .ite c a b, ρ, h => bnd (evT c ρ h) fun t h1 => match t with
    | true => evE a ρ h1
    | false => evE b ρ h1
  | .call f es, ρ, h => bnd (evL es ρ h) fun ds h1 => F.run Str.empty f ds h1
  | .make c es, ρ, h => bnd (evL es ρ h) fun ds h1 => bnd (F.run c "__init__" (.ref h1.length :: ds) (h1 ++ [.ins c []])) fun v h2 => match v with
    | .non => some (.ok (.ref h1.length) h2)
    | _ => none
  | .meth o m es, ρ, h => bnd (noX (evE o ρ h)) fun x h1 => match x with
    | .ref n => match h1[n]? with
      | some (.ins c fs) => if (fs.lookup m).isNone ∧ F.has c m = true then bnd (evL es ρ h1) fun ds h2 => F.run c m (x :: ds) h2 else none
      | _ => none
    | _ => none
  | .blt f es, ρ, h => bnd (evL es ρ h) fun ds h1 => nvRes (bltD f h1 ds) h1
  | .isin a ts _, ρ, h => bnd (evE a ρ h) fun x h1 => match isAny h1 x ts with
    | some b => some (.ok (.bl b) h1)
    | none => none
  | .bm m o es, ρ, h => bnd (evE o ρ h) fun x h1 => if bmT m h1 x then bnd (evL es ρ h1) fun ds h2 => match bmD m h2 x ds with
    | some (d, h3) => some (.ok d h3)
    | none => none
    else none
  | .fld o f, ρ, h => bnd (evE o ρ h) fun x h1 => match x with
    | .ref n => match h1[n]? with
      | some (.ins _ fs) => match fs.lookup f with
        | some d => some (.ok d h1)
        | none => none
      | _ => none
    | _ => none
  | .idx o i, ρ, h => bnd (evE o ρ h) fun x h1 => bnd (evE i ρ h1) fun y h2 => match idxD h2 x y with
    | some d => some (.ok d h2)
    | none => none
  | .slc o lo hi, ρ, h => bnd (evE o ρ h) fun x h1 => bnd (evO lo ρ h1) fun l h2 => bnd (evO hi ρ h2) fun u h3 => nvRes (slcD h3 x l u) h3
  | .tup es, ρ, h => bnd (evL es ρ h) fun ds h1 => if ds.length ≤ sizeLine then some (.ok (.tup ds) h1) else none
  | .lst es, ρ, h => bnd (evL es ρ h) fun ds h1 => if ds.length ≤ sizeLine then newList ds h1 else none
  | .dnewT, _, h => some (.ok (.ref h.length) (h ++ [.dt []]))
  | .dnewK, _, h => some (.ok (.ref h.length) (h ++ [.dk []]))
  | .disp ks es, ρ, h => bnd (evL es ρ h) fun ds h1 =>
      if ks.length = ds.length ∧ ks.length ≤ 15 ∧ ks.Nodup then some (.ok (.ref h1.length) (h1 ++ [.dk ((ks.map Sum.inr).zip ds)])) else none
  | .lvals i, ρ, h => match getVar ρ i with
    | some (.ref n) => match h[n]? with
      | some (.dt kvs) => newList (kvs.map (·.2)) h
      | _ => none
    | _ => none
  | .comp x g it c e, ρ, h => bnd (evI it ρ h) fun J h1 =>
      bnd (okX x (compLoop J g (evT c) (evE e) (wipe ρ g.slots) (J.size h1 + 1) 0 [] h1)) fun ds h2 => newList ds h2
  | .comp2 g it g2 it2 c e, ρ, h => bnd (evI it ρ h) fun J h1 =>
      bnd (noX (compLoop2 J g (fun ρ' acc h' => bnd (evI it2 ρ' h') fun J2 h2 => compLoop J2 g2 (evT c) (evE e) (wipe ρ' g2.slots) (J2.size h2 + 1) 0 acc h2)
        (wipe ρ (g2.slots ++ g.slots)) (J.size h1 + 1) 0 [] h1)) fun ds h2 => newList ds h2
  | .bad, _, _ => none
def evL : ExL → En → Hb → RO (List D)
  | .nil, _, h => some (.ok [] h)
  | .cons e es, ρ, h => bnd (evE e ρ h) fun d h1 => bnd (evL es ρ h1) fun ds h2 => some (.ok (d :: ds) h2)
def evO : OEx → En → Hb → RO (Option Int)
  | .none, _, h => some (.ok none h)
  | .some e, ρ, h => bnd (evE e ρ h) fun d h1 => match d with
    | .int i => some (.ok (some i) h1)
    | _ => none
def evT : Tx → En → Hb → RO Bool
  | .and a b, ρ, h => bnd (evT a ρ h) fun x h1 => match x with
    | true => evT b ρ h1
    | false => some (.ok false h1)
  | .or a b, ρ, h => bnd (evT a ρ h) fun x h1 => match x with
    | true => some (.ok true h1)
    | false => evT b ρ h1
  | .not a, ρ, h => bnd (evT a ρ h) fun x h1 => some (.ok (!x) h1)
  | .ex e, ρ, h => bnd (evE e ρ h) fun d h1 => match tru h1 d with
    | some b => some (.ok b h1)
    | none => none
  | .cmp op a b, ρ, h => bnd (evE a ρ h) fun x h1 => bnd (evE b ρ h1) fun y h2 => match cmpD op h2 x y with
    | some c => some (.ok c h2)
    | none => none
  | .yes, _, h => some (.ok true h)
def evI : Itx → En → Hb → RO It
  | .val e, ρ, h => bnd (evE e ρ h) fun d h1 => match d with
    | .tup ds => some (.ok (.tup ds) h1)
    | .kt ds => some (.ok (.tup ds) h1)
    | .ref n => if (items h1 n).isSome then some (.ok (.lst n) h1) else none
    | _ => none
  | .rng a b, ρ, h => bnd (evE a ρ h) fun x h1 => bnd (evE b ρ h1) fun y h2 => match x, y with
    | .int i, .int j => if fits62 i = true ∧ fits62 j = true then some (.ok (.rng i (j - i).toNat) h2) else none
    | _, _ => none
  | .rng1 a, ρ, h => bnd (evE a ρ h) fun x h1 => match x with
    | .int j => if fits62 j = true then some (.ok (.rng 0 j.toNat) h1) else none
    | _ => none
  | .enum e, ρ, h => bnd (evE e ρ h) fun d h1 => match d with
    | .ref n => if (items h1 n).isSome then some (.ok (.enum n) h1) else none
    | _ => none
  | .zip a b, ρ, h => bnd (evE a ρ h) fun x h1 => bnd (evE b ρ h1) fun y h2 => match x, y with
    | .ref n, .ref m => if (items h2 n).isSome && (items h2 m).isSome then some (.ok (.zip n m) h2) else none
    | _, _ => none
end

/-! ### statements -/
inductive SR where
  | nx (ρ : En) (h : Hb)
  | ret (d : D) (h : Hb)
  | brk (ρ : En) (h : Hb)
  | cont (ρ : En) (h : Hb)
  | exc (c : Str) (fs : List (Str × D)) (ρ : En) (h : Hb)

/-- an expression's end within a statement -/
def sB {α : Type} (ρ : En) (r : RO α) (f : α → Hb → Option SR) : Option SR :=
  match r with
  | none => none
  | some (.ok a h) => f a h
  | some (.exc c fs h) => some (.exc c fs ρ h)

def putA (f : Str) (d : D) : List (Str × D) → List (Str × D)
  | [] => [(f, d)]
  | (g, x) :: r => if g = f then (g, d) :: r else (g, x) :: putA f d r
/-- o.f = d -/
def putFld (h : Hb) (x : D) (c0 f : Str) (d : D) : Option Hb :=
  match x with
  | .ref n => match h[n]? with
    | some (.ins c fs) => if c = c0 ∧ fs.length < 1000 then some (h.set n (.ins c (putA f d fs))) else none
    | _ => none
  | _ => none

/-- o[i] = d -/
def putSub (h : Hb) (o i d : D) : Option Hb :=
  match o, i with
  | .ref n, .int k => match h[n]? with
    | some (.lst xs) => (L2.ixN xs.length k).map fun j => h.set n (.lst (xs.set j d))
    | _ => none
  | _, _ => none

def augD (op : Operator) (x y : D) : Option D :=
  match op, x, y with
  | .Add, .int i, .int j => some (.int (i + j))
  | .Sub, .int i, .int j => some (.int (i - j))
  | _, _, _ => none

/-- an object's place from the left -/
def nonNegIx : D → D → Bool
  | .ref _, .int k => decide (0 ≤ k)
  | _, _ => false
/-- a loop's turns -/
def forLoop (it : It) (g : Tg) (b : En → Hb → Option SR) : Nat → Nat → En → Hb → Option SR
  | 0, _, _, _ => none
  | n + 1, i, ρ, h => match it.at h i with
    | none => none
    | some none => some (.nx ρ h)
    | some (some d) => match bindTg ρ g d with
      | none => none
      | some ρ' => match b ρ' h with
        | some (.nx ρ2 h2) => forLoop it g b n (i + 1) ρ2 h2
        | some (.cont ρ2 h2) => forLoop it g b n (i + 1) ρ2 h2
        | some (.brk ρ2 h2) => some (.nx ρ2 h2)
        | r => r

def whileLoop (c : En → Hb → RO Bool) (b : En → Hb → Option SR) : Nat → En → Hb → Option SR
  | 0, _, _ => none
  | n + 1, ρ, h => sB ρ (c ρ h) fun t h1 => match t with
    | false => some (.nx ρ h1)
    | true => match b ρ h1 with
      | some (.nx ρ2 h2) => whileLoop c b n ρ2 h2
      | some (.cont ρ2 h2) => whileLoop c b n ρ2 h2
      | some (.brk ρ2 h2) => some (.nx ρ2 h2)
      | r => r

/-- a locked dict is opened again -/
def unlock (n : Nat) (h : Hb) : Option Hb :=
  match h[n]? with
  | some (.frz o) => some (h.set n o)
  | _ => none
def unlockS (n : Nat) : SR → Option SR
  | .nx ρ h => (unlock n h).map fun h => .nx ρ h
  | .ret d h => (unlock n h).map fun h => .ret d h
  | .brk ρ h => (unlock n h).map fun h => .brk ρ h
  | .cont ρ h => (unlock n h).map fun h => .cont ρ h
  | .exc _ _ _ _ => none

/-- an except suite lets no exception out -/
def noXS : Option SR → Option SR
  | some (.exc _ _ _ _) => none
  | r => r
/-- does the class c2 stand above c (itself too) -/
abbrev Above := Str → Str → Option Bool
variable (U : Above) (Wf : Nat)
mutual
def evS : Sx → En → Hb → Option SR
  | .expr e, ρ, h => sB ρ (evE F e ρ h) fun _ h1 => some (.nx ρ h1)
  | .ret e, ρ, h => sB ρ (evE F e ρ h) fun d h1 => some (.ret d h1)
  | .retN, _, h => some (.ret .non h)
  | .asg (.tg g) e, ρ, h => sB ρ (evE F e ρ h) fun d h1 => match bindTg ρ g d with
    | some ρ' => some (.nx ρ' h1)
    | none => none
  | .asg (.fld o c f) e, ρ, h => sB ρ (evE F e ρ h) fun d h1 => sB ρ (evE F o ρ h1) fun x h2 => match putFld h2 x c f d with
    | some h3 => some (.nx ρ h3)
    | none => none
  | .asg (.sub o i) e, ρ, h => sB ρ (evE F e ρ h) fun d h1 => sB ρ (evE F o ρ h1) fun x h2 => sB ρ (evE F i ρ h2) fun y h3 => match putSub h3 x y d with
    | some h4 => some (.nx ρ h4)
    | none => none
  | .par i j a b, ρ, h => sB ρ (evE F a ρ h) fun x h1 => sB ρ (evE F b ρ h1) fun y h2 => some (.nx (setVar (setVar ρ i x) j y) h2)
  | .aug i op e, ρ, h => match getVar ρ i with
    | none => none
    | some x => sB ρ (evE F e ρ h) fun y h1 => match augD op x y with
      | some z => some (.nx (setVar ρ i z) h1)
      | none => none
  | .augF o c f op e, ρ, h => sB ρ (evE F o ρ h) fun x h1 => match x with
    | .ref n => match h1[n]? with
      | some (.ins _ fs) => match fs.lookup f with
        | none => none
        | some v => sB ρ (evE F e ρ h1) fun y h2 => match augD op v y with
          | some z => match putFld h2 x c f z with
            | some h3 => some (.nx ρ h3)
            | none => none
          | none => none
      | _ => none
    | _ => none
  | .augS o i op e, ρ, h => sB ρ (evE F o ρ h) fun x h1 => sB ρ (evE F i ρ h1) fun y h2 => match (if nonNegIx x y then idxD h2 x y else none) with
    | none => none
    | some v => sB ρ (evE F e ρ h2) fun w h3 => match augD op v w with
      | some z => match putSub h3 x y z with
        | some h4 => some (.nx ρ h4)
        | none => none
      | none => none
  | .ifs c a b, ρ, h => sB ρ (evT F c ρ h) fun t h1 => match t with
    | true => evSs a ρ h1
    | false => evSs b ρ h1
  | .fors g it b, ρ, h => sB ρ (evI F it ρ h) fun J h1 => forLoop J g (evSs b) (J.size h1 + 1) 0 ρ h1
  | .forV g i b, ρ, h => match getVar ρ i with
    | some (.ref n) => match h[n]? with
      | some (.dt kvs) => (forLoop (.tup (kvs.map (·.2))) g (evSs b) (kvs.length + 1) 0 ρ (h.set n (.frz (.dt kvs)))).bind (unlockS n)
      | _ => none
    | _ => none
  | .whil c b, ρ, h => whileLoop (evT F c) (evSs b) Wf ρ h
  | .raise c, ρ, h => some (.exc c [] ρ h)
  | .tryO c b s, ρ, h => match evSs b ρ h with
    | some (.exc c' fs ρ' h') => match U c' c with
      | some true => noXS (evSs s ρ' h')
      | some false => some (.exc c' fs ρ' h')
      | none => none
    | r => r
  | .brk, ρ, h => some (.brk ρ h)
  | .cont, ρ, h => some (.cont ρ h)
  | .pass, ρ, h => some (.nx ρ h)
  | .bad, _, _ => none
def evSs : SxL → En → Hb → Option SR
  | .nil, ρ, h => some (.nx ρ h)
  | .cons s ss, ρ, h => match evS s ρ h with
    | some (.nx ρ' h') => evSs ss ρ' h'
    | r => r
end
end

/-! ### defs and calls -/
structure Df where
  names : List Str
  pars : List Str
  body : SxL

/-- no reference to what may change -/
def noRef : D → Bool
  | .ref _ => false
  | .tup ds => noRefs ds
  | .kt _ => false
  | .kl _ => false
  | _ => true
where noRefs : List D → Bool
  | [] => true
  | d :: r => noRef d && noRefs r

/-- behind a call that changed nothing of what stood: what it has made and nobody sees is forgotten -/
def gc (n : Nat) (h0 : Hb) (d : D) (h : Hb) : Res D :=
  if h.take n = h0 then
    match d with
    | .ref m => if m < n then .ok d h0 else match h[m]? with
      | some (.lst ds) => if noRef.noRefs ds then .ok (.ref n) (h0 ++ [.lst ds]) else .ok d h
      | _ => .ok d h
    | d => if noRef d then .ok d h0 else .ok d h
  else .ok d h

def gcX (n : Nat) (h0 : Hb) (c : Str) (fs : List (Str × D)) (h : Hb) : Res D :=
  if h.take n = h0 ∧ fs = [] then .exc c fs h0 else .exc c fs h

def startEn (d : Df) (ds : List D) : En := ds.map some ++ List.replicate (d.names.length - ds.length) none

/-- a def's body at its arguments -/
def runDf (F : Fn) (U : Above) (Wf : Nat) (d : Df) (ds : List D) (h : Hb) : RO D :=
  if ds.length = d.pars.length then
    match evSs F U Wf d.body (startEn d ds) h with
    | some (.nx _ h') => some (gc h.length h .non h')
    | some (.ret v h') => some (gc h.length h v h')
    | some (.exc c fs _ h') => some (gcX h.length h c fs h')
    | _ => none
  else none

structure Pg where
  defs : List ((Str × Str) × Df)
  above : Above

def Pg.hasM (G : Pg) (c m : Str) : Bool := (G.defs.lookup (c, m)).isSome && decide (c ≠ Str.empty)
/-- calls in at most k levels -/
def fnN (G : Pg) (Wf : Nat) : Nat → Fn
  | 0 => ⟨fun _ _ _ _ => none, G.hasM⟩
  | k + 1 => ⟨fun c f ds h => match G.defs.lookup (c, f) with
    | some d => runDf (fnN G Wf k) G.above Wf d ds h
    | none => none, G.hasM⟩
end Ev

set_option Elab.async false
set_option linter.all false
set_option maxRecDepth 100000
set_option autoImplicit false
/-! Ev1: how the evaluator's values and objects lie in the layer's abstract heap. -/
namespace Ev
open PySem PySem.Spec PyProof.Rows L2
open He (ga ma)

/-- a tuple that the program's start has laid -/
def SqK (K : PySem.W.Frag) (a : Addr) (xs : List V) : Prop :=
  ∃ (o : Obj) (its : Array Value) (n : Nat), K.lookup a = some o ∧ o.cls = .type "tuple" ∧ o.data = .seq its n ∧ its.size ≤ sizeLine ∧ Vals xs its.toList
/-- a list that nobody changes -/
def SqF (K : PySem.W.Frag) (H : Hp) (a : Addr) (xs : List V) : Prop :=
  (∃ o, H a = some (.frz o (.lst xs))) ∨
    ∃ (o : Obj) (its : Array Value) (n : Nat), K.lookup a = some o ∧ o.cls = .type "list" ∧ o.dict = none ∧ o.data = .seq its n ∧ its.size ≤ sizeLine ∧ Vals xs its.toList
theorem SqF.sq {K : PySem.W.Frag} {H : Hp} {a : Addr} {xs : List V} (h : SqF K H a xs) : SqL K H a xs := h.elim (fun ⟨o, e⟩ => .inl (.inr ⟨o, e⟩)) .inr
mutual
/-- a value lies as v -/
inductive Rv (K : PySem.W.Frag) (ι : List Addr) (H : Hp) : D → V → Prop where
  | non : Rv K ι H .non .non
  | bl (b : Bool) : Rv K ι H (.bl b) (.bl b)
  | int (i : Int) : Rv K ι H (.int i) (.int i)
  | str (s : Str) : Rv K ι H (.str s) (.str s)
  | ref {n : Nat} {a : Addr} : ι[n]? = some a → Rv K ι H (.ref n) (.ref a)
  | tup {ds : List D} {a : Addr} {vs : List V} : H a = some (.tup vs) → Rvs K ι H ds vs → Rv K ι H (.tup ds) (.ref a)
  | kt {ds : List D} {a : Addr} {vs : List V} : SqK K a vs → Rvs K ι H ds vs → Rv K ι H (.kt ds) (.ref a)
  | kl {ds : List D} {a : Addr} {vs : List V} : SqF K H a vs → Rvs K ι H ds vs → Rv K ι H (.kl ds) (.ref a)
inductive Rvs (K : PySem.W.Frag) (ι : List Addr) (H : Hp) : List D → List V → Prop where
  | nil : Rvs K ι H [] []
  | cons {d : D} {v : V} {ds : List D} {vs : List V} : Rv K ι H d v → Rvs K ι H ds vs → Rvs K ι H (d :: ds) (v :: vs)
end

section
variable {K : PySem.W.Frag} {ι ι' : List Addr} {H H' : Hp}

/-- later: more objects, the tuples stand -/
structure Mo (K : PySem.W.Frag) (ι : List Addr) (H : Hp) (ι' : List Addr) (H' : Hp) : Prop where
  pre : ∀ (n : Nat) (a : Addr), ι[n]? = some a → ι'[n]? = some a
  tups : ∀ a vs, H a = some (.tup vs) → H' a = some (.tup vs)
  lsts : ∀ a o vs, H a = some (.frz o (.lst vs)) → H' a = some (.frz o (.lst vs))
theorem Mo.refl : Mo K ι H ι H := ⟨fun _ _ e => e, fun _ _ e => e, fun _ _ _ e => e⟩
theorem Mo.trans {ι2 : List Addr} {H2 : Hp} (a : Mo K ι H ι' H') (b : Mo K ι' H' ι2 H2) : Mo K ι H ι2 H2 :=
  ⟨fun n x e => b.pre n x (a.pre n x e), fun x vs e => b.tups x vs (a.tups x vs e), fun x o vs e => b.lsts x o vs (a.lsts x o vs e)⟩
mutual
theorem Rv.mo (m : Mo K ι H ι' H') : ∀ {d : D} {v : V}, Rv K ι H d v → Rv K ι' H' d v
  | _, _, .non => .non
  | _, _, .bl b => .bl b
  | _, _, .int i => .int i
  | _, _, .str s => .str s
  | _, _, .ref e => .ref (m.pre _ _ e)
  | _, _, .tup e r => .tup (m.tups _ _ e) (Rvs.mo m r)
  | _, _, .kt e r => .kt e (Rvs.mo m r)
  | _, _, .kl e r => .kl (e.imp (fun ⟨o, q⟩ => ⟨o, m.lsts _ _ _ q⟩) id) (Rvs.mo m r)
theorem Rvs.mo (m : Mo K ι H ι' H') : ∀ {ds : List D} {vs : List V}, Rvs K ι H ds vs → Rvs K ι' H' ds vs
  | _, _, .nil => .nil
  | _, _, .cons r t => .cons (Rv.mo m r) (Rvs.mo m t)
end
theorem Rvs.length {ds : List D} {vs : List V} (r : Rvs K ι H ds vs) : ds.length = vs.length := by
  induction ds generalizing vs with
  | nil => cases r; rfl
  | cons d ds ih => cases r with | cons a b => simp [ih b]
theorem Rvs.get {ds : List D} {vs : List V} (r : Rvs K ι H ds vs) {i : Nat} {d : D} (e : ds[i]? = some d) : ∃ v, vs[i]? = some v ∧ Rv K ι H d v := by
  induction ds generalizing vs i with
  | nil => simp at e
  | cons x ds ih =>
    cases r with
    | cons a b =>
      cases i with
      | zero => simp at e; subst e; exact ⟨_, rfl, a⟩
      | succ i => simp at e; obtain ⟨v, h1, h2⟩ := ih b e; exact ⟨v, by simpa using h1, h2⟩
theorem Rvs.getV {ds : List D} {vs : List V} (r : Rvs K ι H ds vs) {i : Nat} {v : V} (e : vs[i]? = some v) : ∃ d, ds[i]? = some d ∧ Rv K ι H d v := by
  induction ds generalizing vs i with
  | nil => cases r; simp at e
  | cons x ds ih =>
    cases r with
    | cons a b =>
      cases i with
      | zero => simp at e; subst e; exact ⟨_, rfl, a⟩
      | succ i => simp at e; obtain ⟨d, h1, h2⟩ := ih b e; exact ⟨d, by simpa using h1, h2⟩
theorem Rvs.append {ds es : List D} {vs ws : List V} (r : Rvs K ι H ds vs) (q : Rvs K ι H es ws) : Rvs K ι H (ds ++ es) (vs ++ ws) := by
  induction ds generalizing vs with
  | nil => cases r; exact q
  | cons x ds ih => cases r with | cons a b => exact .cons a (ih b)
theorem Rvs.one {d : D} {v : V} (r : Rv K ι H d v) : Rvs K ι H [d] [v] := .cons r .nil
theorem Rvs.take {ds : List D} {vs : List V} (r : Rvs K ι H ds vs) (n : Nat) : Rvs K ι H (ds.take n) (vs.take n) := by
  induction ds generalizing vs n with
  | nil => cases r; simp; exact .nil
  | cons x ds ih => cases r with
    | cons a b => cases n with
      | zero => exact .nil
      | succ n => simpa using Rvs.cons a (ih b n)
theorem Rvs.drop {ds : List D} {vs : List V} (r : Rvs K ι H ds vs) (n : Nat) : Rvs K ι H (ds.drop n) (vs.drop n) := by
  induction ds generalizing vs n with
  | nil => cases r; simp; exact .nil
  | cons x ds ih => cases r with
    | cons a b => cases n with
      | zero => exact .cons a b
      | succ n => simpa using ih b n
theorem Rvs.set {ds : List D} {vs : List V} (r : Rvs K ι H ds vs) (n : Nat) {d : D} {v : V} (q : Rv K ι H d v) : Rvs K ι H (ds.set n d) (vs.set n v) := by
  induction ds generalizing vs n with
  | nil => cases r; exact .nil
  | cons x ds ih => cases r with
    | cons a b => cases n with
      | zero => exact .cons q b
      | succ n => exact .cons a (ih b n)

/-- attributes -/
def Rfs (K : PySem.W.Frag) (ι : List Addr) (H : Hp) : List (Str × D) → List (Str × V) → Prop := Paired fun p q => p.1 = q.1 ∧ Rv K ι H p.2 q.2
/-- a dict's pairs -/
def Rkv {κ : Type} (K : PySem.W.Frag) (ι : List Addr) (H : Hp) : List (κ × D) → List (κ × V) → Prop := Paired fun p q => p.1 = q.1 ∧ Rv K ι H p.2 q.2
theorem Rkv.mo {κ : Type} (m : Mo K ι H ι' H') {ps : List (κ × D)} {qs : List (κ × V)} (r : Rkv K ι H ps qs) : Rkv K ι' H' ps qs :=
  Paired.mapP r fun _ _ z => ⟨z.1, z.2.mo m⟩
theorem Rkv.length {κ : Type} {ps : List (κ × D)} {qs : List (κ × V)} (r : Rkv K ι H ps qs) : ps.length = qs.length := Paired.length r

/-- an object lies at a -/
def Ro (K : PySem.W.Frag) (ι : List Addr) (H : Hp) (a : Addr) : Ob → Prop
  | .lst ds => ∃ vs, H a = some (.lst vs) ∧ Rvs K ι H ds vs
  | .dk kvs => ∃ ws, H a = some (.dK ws) ∧ Rkv K ι H kvs ws
  | .dt kvs => ∃ ws, H a = some (.dT ws) ∧ Rkv K ι H kvs ws
  | .ins c fs => ∃ dx ws, H a = some (.ins (ga K c) dx ws) ∧ Rkv K ι H fs ws ∧ Cls K (ga K c) ∧ ∀ p ∈ fs, NoAttr K (ga K c) p.1
  | .frz (.dt kvs) => ∃ od ws, H a = some (.frz od (.dT ws)) ∧ Rkv K ι H kvs ws
  | .frz _ => False
/-- not just read -/
def Ob.own : Ob → Bool
  | _ => true

/-- the objects lie in the heap, each at its own address -/
structure R (K : PySem.W.Frag) (ι : List Addr) (h : Hb) (H : Hp) : Prop where
  len : ι.length = h.length
  obj : ∀ (n : Nat) (o : Ob) (a : Addr), h[n]? = some o → ι[n]? = some a → Ro K ι H a o
  inj : ∀ (n m : Nat) (a : Addr) (o o' : Ob), ι[n]? = some a → ι[m]? = some a → h[n]? = some o → h[m]? = some o' → o.own = true → o'.own = true → n = m

/-- what an evaluation leaves -/
structure Ext (K : PySem.W.Frag) (ι : List Addr) (H : Hp) (ι' : List Addr) (H' : Hp) : Prop extends Mo K ι H ι' H' where
  frame : ∀ a o, a ∉ ι → H a = some o → H' a = some o ∧ a ∉ ι'
  frzs : ∀ a o u, H a = some (.frz o u) → H' a = some (.frz o u)
theorem Ext.refl : Ext K ι H ι H := ⟨Mo.refl, fun _ _ n e => ⟨e, n⟩, fun _ _ _ e => e⟩
theorem Ext.trans {ι2 : List Addr} {H2 : Hp} (a : Ext K ι H ι' H') (b : Ext K ι' H' ι2 H2) : Ext K ι H ι2 H2 :=
  ⟨a.toMo.trans b.toMo, fun x o n e => let ⟨e1, n1⟩ := a.frame x o n e; b.frame x o n1 e1, fun x o u e => b.frzs x o u (a.frzs x o u e)⟩

theorem Ro.mem {n : Nat} {h : Hb} {o : Ob} (r : R K ι h H) (e : h[n]? = some o) : ∃ a, ι[n]? = some a ∧ Ro K ι H a o := by
  have hn : n < h.length := (List.getElem?_eq_some_iff.mp e).1
  have hn' : n < ι.length := by rw [r.len]; exact hn
  exact ⟨ι[n], List.getElem?_eq_getElem hn', r.obj n o _ e (List.getElem?_eq_getElem hn')⟩
theorem R.at {n : Nat} {h : Hb} {o : Ob} {a : Addr} (r : R K ι h H) (e : h[n]? = some o) (ea : ι[n]? = some a) : Ro K ι H a o := r.obj n o a e ea

/-- tuples' addresses -/
theorem sqT_upd {a b : Addr} {vs : List V} {u : HO} (h : H a = some (.tup vs)) (n1 : ∀ xs, H b ≠ some (.tup xs)) : (upd H b u) a = some (.tup vs) := by
  rw [upd_ne (fun e => n1 vs (by rw [← e]; exact h))]; exact h
theorem frl_upd {a b : Addr} {od : Obj} {vs : List V} {u : HO} (h : H a = some (.frz od (.lst vs))) (n2 : ∀ o xs, H b ≠ some (.frz o (.lst xs))) : (upd H b u) a = some (.frz od (.lst vs)) := by
  rw [upd_ne (fun e => n2 od vs (by rw [← e]; exact h))]; exact h
theorem sqF_upd {a b : Addr} {vs : List V} {u : HO} (h : SqF K H a vs) (n2 : ∀ o xs, H b ≠ some (.frz o (.lst xs))) : SqF K (upd H b u) a vs := by
  rcases h with ⟨o, h⟩ | h
  · refine .inl ⟨o, ?_⟩
    rw [upd_ne (fun e => n2 o vs (by rw [← e]; exact h))]; exact h
  · exact .inr h

theorem Ro.mo {a : Addr} {o : Ob} (m : Mo K ι H ι' H') (hl : ∀ vs, SqF K H a vs → SqF K H' a vs) (ha : o.own = true → H' a = H a) (r : Ro K ι H a o) : Ro K ι' H' a o := by
  cases o with
  | lst ds => obtain ⟨vs, e, q⟩ := r; exact ⟨vs, by rw [ha rfl]; exact e, q.mo m⟩
  | dk ds => obtain ⟨vs, e, q⟩ := r; exact ⟨vs, by rw [ha rfl]; exact e, q.mo m⟩
  | dt ds => obtain ⟨vs, e, q⟩ := r; exact ⟨vs, by rw [ha rfl]; exact e, q.mo m⟩
  | ins c fs => obtain ⟨dx, ws, e, q, c1, c2⟩ := r; exact ⟨dx, ws, by rw [ha rfl]; exact e, q.mo m, c1, c2⟩
  | frz o => cases o with
    | dt kvs => obtain ⟨od, ws, e, q⟩ := r; exact ⟨od, ws, by rw [ha rfl]; exact e, q.mo m⟩
    | _ => exact r

/-- an own object is tracked -/
theorem Ro.some {a : Addr} {o : Ob} (r : Ro K ι H a o) (h : o.own = true) : ∃ u, H a = some u ∧ (∀ xs, u ≠ .tup xs) ∧ (∀ od xs, u ≠ .frz od (.tup xs)) ∧ (∀ od xs, u ≠ .frz od (.lst xs)) := by
  cases o with
  | lst ds => obtain ⟨vs, e, q⟩ := r; exact ⟨_, e, by simp, by simp, by simp⟩
  | dk ds => obtain ⟨vs, e, q⟩ := r; exact ⟨_, e, by simp, by simp, by simp⟩
  | dt ds => obtain ⟨vs, e, q⟩ := r; exact ⟨_, e, by simp, by simp, by simp⟩
  | ins c fs => obtain ⟨dx, ws, e, q, c1, c2⟩ := r; exact ⟨_, e, by simp, by simp, by simp⟩
  | frz o => cases o with
    | dt kvs => obtain ⟨od, ws, e, q⟩ := r; exact ⟨_, e, by simp, by simp, by simp⟩
    | _ => exact r.elim

/-! ### a new tuple, beside the objects -/
theorem Mo.tup {p : Addr} {xs : List V} (hp : H p = none) : Mo K ι H ι (upd H p (.tup xs)) :=
  ⟨fun _ _ e => e, fun a vs e => sqT_upd e (by rw [hp]; simp), fun a o vs e => frl_upd e (by rw [hp]; simp)⟩
theorem R.fresh {h : Hb} {p : Addr} {u : HO} (r : R K ι h H) (hp : H p = none) (m : Mo K ι H ι (upd H p u)) : R K ι h (upd H p u) := by
  refine ⟨r.len, fun n o a e ea => ?_, r.inj⟩
  have q := r.obj n o a e ea
  refine Ro.mo m (fun vs s => sqF_upd s (by rw [hp]; simp)) (fun ho => ?_) q
  obtain ⟨w, hw, _⟩ := q.some ho
  rw [upd_ne (ne_of_none hw hp)]
theorem notin_fresh {h : Hb} {p : Addr} (r : R K ι h H) (hp : H p = none) {n : Nat} {o : Ob} {a : Addr} (e : h[n]? = some o) (ea : ι[n]? = some a) (ho : o.own = true) : a ≠ p := by
  obtain ⟨w, hw, _⟩ := (r.obj n o a e ea).some ho
  exact ne_of_none hw hp
theorem R.tup {h : Hb} {p : Addr} {xs : List V} (r : R K ι h H) (hp : H p = none) : R K ι h (upd H p (.tup xs)) := r.fresh hp (Mo.tup hp)
theorem Ext.ofFresh {p : Addr} {u : HO} (hp : H p = none) (m : Mo K ι H ι (upd H p u)) : Ext K ι H ι (upd H p u) :=
  ⟨m, fun a o n e => ⟨by rw [upd_ne (ne_of_none e hp)]; exact e, n⟩, fun a o u e => by rw [upd_ne (ne_of_none e hp)]; exact e⟩
theorem Ext.tup {p : Addr} {xs : List V} (hp : H p = none) : Ext K ι H ι (upd H p (.tup xs)) := Ext.ofFresh hp (Mo.tup hp)

/-! ### a new object -/
theorem Mo.new {p : Addr} {u : HO} (hp : H p = none) : Mo K ι H (ι ++ [p]) (upd H p u) :=
  ⟨fun n a e => by rw [List.getElem?_append_left (List.getElem?_eq_some_iff.mp e).1]; exact e, fun a vs e => sqT_upd e (by rw [hp]; simp), fun a o vs e => frl_upd e (by rw [hp]; simp)⟩
theorem Ext.new {p : Addr} {u : HO} (hp : H p = none) : Ext K ι H (ι ++ [p]) (upd H p u) :=
  ⟨Mo.new hp, fun a o n e => ⟨by rw [upd_ne (ne_of_none e hp)]; exact e, by
    simp only [List.mem_append, List.mem_singleton, not_or]
    exact ⟨n, ne_of_none e hp⟩⟩, fun a o u e => by rw [upd_ne (ne_of_none e hp)]; exact e⟩
theorem R.new {h : Hb} {p : Addr} {u : HO} {o : Ob} (r : R K ι h H) (hp : H p = none) (ho : o.own = true) (q : Ro K (ι ++ [p]) (upd H p u) p o) : R K (ι ++ [p]) (h ++ [o]) (upd H p u) := by
  have lenE := r.len
  have old : ∀ (n : Nat) (x : Ob), (h ++ [o])[n]? = some x → (n < h.length ∧ h[n]? = some x) ∨ (n = h.length ∧ x = o) := fun n x e => by
    by_cases hn : n < h.length
    · rw [List.getElem?_append_left hn] at e; exact .inl ⟨hn, e⟩
    · rw [List.getElem?_append_right (by omega)] at e
      by_cases hz : n = h.length
      · subst hz; simp at e; exact .inr ⟨rfl, e.symm⟩
      · have : n - h.length ≠ 0 := by omega
        rw [List.getElem?_eq_none (by simp; omega)] at e; cases e
  have oldA : ∀ (n : Nat) (a : Addr), n < h.length → (ι ++ [p])[n]? = some a → ι[n]? = some a := fun n a hn e => by
    rw [List.getElem?_append_left (by omega)] at e; exact e
  have newA : ∀ (a : Addr), (ι ++ [p])[h.length]? = some a → a = p := fun a e => by
    rw [List.getElem?_append_right (by omega), lenE] at e
    simp at e; exact e.symm
  refine ⟨by simp [lenE], fun n x a e ea => ?_, fun n m a x x' en em ex ex' h1 h2 => ?_⟩
  · rcases old n x e with ⟨hn, e'⟩ | ⟨rfl, rfl⟩
    · have ea' := oldA n a hn ea
      have q' := r.obj n x a e' ea'
      refine Ro.mo (Mo.new hp) (fun vs s => sqF_upd s (by rw [hp]; simp)) (fun hx => ?_) q'
      rw [upd_ne (notin_fresh r hp e' ea' hx)]
    · rw [newA a ea]; exact q
  · rcases old n x ex with ⟨hn, e1⟩ | ⟨rfl, rfl⟩
    · rcases old m x' ex' with ⟨hm, e2⟩ | ⟨rfl, rfl⟩
      · exact r.inj n m a x x' (oldA n a hn en) (oldA m a hm em) e1 e2 h1 h2
      · exact absurd (newA a em) (notin_fresh r hp e1 (oldA n a hn en) h1)
    · rcases old m x' ex' with ⟨hm, e2⟩ | ⟨rfl, rfl⟩
      · exact absurd (newA a en) (notin_fresh r hp e2 (oldA m a hm em) h2)
      · rfl

/-! ### an object is changed -/
theorem Mo.put {h : Hb} {n : Nat} {o : Ob} {a : Addr} {u : HO} (r : R K ι h H) (e : h[n]? = some o) (ea : ι[n]? = some a) (ho : o.own = true) : Mo K ι H ι (upd H a u) := by
  obtain ⟨w, hw, n1, n2, n3⟩ := (r.obj n o a e ea).some ho
  exact ⟨fun _ _ z => z, fun b vs z => sqT_upd z (fun xs q => n1 xs (Option.some.inj (hw.symm.trans q))), fun b o vs z => frl_upd z (fun od xs q => n3 od xs (Option.some.inj (hw.symm.trans q)))⟩
/-- not locked -/
def Ob.mut : Ob → Bool
  | .frz _ => false
  | _ => true
theorem Ob.own_of {o : Ob} (h : o.mut = true) : o.own = true := by cases o <;> simp [Ob.mut] at h <;> rfl
theorem Ro.notFrz {a : Addr} {o : Ob} (r : Ro K ι H a o) (h : o.mut = true) : ∀ (od : Obj) (u : HO), H a ≠ Option.some (HO.frz od u) := by
  cases o with
  | lst ds => obtain ⟨vs, e, q⟩ := r; rw [e]; simp
  | dk ds => obtain ⟨vs, e, q⟩ := r; rw [e]; simp
  | dt ds => obtain ⟨vs, e, q⟩ := r; rw [e]; simp
  | ins c fs => obtain ⟨dx, ws, e, q, c1, c2⟩ := r; rw [e]; simp
  | frz o => simp [Ob.mut] at h
theorem Ext.put {h : Hb} {n : Nat} {o : Ob} {a : Addr} {u : HO} (r : R K ι h H) (e : h[n]? = some o) (ea : ι[n]? = some a) (ho : o.mut = true) : Ext K ι H ι (upd H a u) :=
  ⟨Mo.put r e ea (Ob.own_of ho), fun b w nb eb => ⟨by
    rw [upd_ne (fun z => nb (by rw [z]; exact List.mem_of_getElem? ea))]; exact eb, nb⟩, fun b od w eb => by
    rw [upd_ne (fun z => Ro.notFrz (r.obj n o a e ea) ho od w (by rw [← z]; exact eb))]; exact eb⟩
theorem R.put {h : Hb} {n : Nat} {o o' : Ob} {a : Addr} {u : HO} (r : R K ι h H) (e : h[n]? = some o) (ea : ι[n]? = some a) (ho : o.own = true) (ho' : o'.own = true)
    (q : Ro K ι (upd H a u) a o') : R K ι (h.set n o') (upd H a u) := by
  have hn : n < h.length := (List.getElem?_eq_some_iff.mp e).1
  have old : ∀ (m : Nat) (x : Ob), (h.set n o')[m]? = some x → (m ≠ n ∧ h[m]? = some x) ∨ (m = n ∧ x = o') := fun m x z => by
    by_cases hm : m = n
    · subst hm; rw [List.getElem?_set_self hn] at z; exact .inr ⟨rfl, (Option.some.inj z).symm⟩
    · rw [List.getElem?_set_ne (Ne.symm hm)] at z; exact .inl ⟨hm, z⟩
  obtain ⟨w, hw, n1, n2, n3⟩ := (r.obj n o a e ea).some ho
  refine ⟨by simp [r.len], fun m x b z eb => ?_, fun m m' b x x' em em' z z' h1 h2 => ?_⟩
  · rcases old m x z with ⟨hm, z⟩ | ⟨rfl, rfl⟩
    · have q' := r.obj m x b z eb
      refine Ro.mo (Mo.put r e ea ho) (fun vs s => sqF_upd s fun od xs k => n3 od xs (Option.some.inj (hw.symm.trans k))) (fun hx => ?_) q'
      · refine upd_ne fun c => hm ?_
        subst c
        exact r.inj m n b x o eb ea z e hx ho
    · rw [eb] at ea; cases ea; exact q
  · rcases old m x z with ⟨hm, k⟩ | ⟨k1, k2⟩
    · rcases old m' x' z' with ⟨hm', k'⟩ | ⟨k1', k2'⟩
      · exact r.inj m m' b x x' em em' k k' h1 h2
      · exact r.inj m m' b x o em em' k (by rw [k1']; exact e) h1 ho
    · rcases old m' x' z' with ⟨hm', k'⟩ | ⟨k1', k2'⟩
      · exact r.inj m m' b o x' em em' (by rw [k1]; exact e) k' ho h2
      · rw [k1, k1']

/-! ### an object that was laid beside the others is taken in -/
theorem R.notin {h : Hb} {p : Addr} (r : R K ι h H) (hp : H p = none) : p ∉ ι := fun hm => by
  obtain ⟨n, hn⟩ := List.getElem?_of_mem hm
  have hl : n < h.length := by rw [← r.len]; exact (List.getElem?_eq_some_iff.mp hn).1
  obtain ⟨u, hu, _⟩ := (r.obj n _ p (List.getElem?_eq_getElem hl) hn).some rfl
  rw [hp] at hu; cases hu
theorem Mo.adopt {p : Addr} {u w : HO} (e : H p = some w) (n1 : ∀ xs, w ≠ .tup xs) (n2 : ∀ od xs, w ≠ .frz od xs) : Mo K ι H (ι ++ [p]) (upd H p u) :=
  ⟨fun n a e => by rw [List.getElem?_append_left (List.getElem?_eq_some_iff.mp e).1]; exact e, fun a vs z => sqT_upd z fun xs q => n1 xs (by rw [e] at q; exact Option.some.inj q), fun a o vs z => frl_upd z fun od xs q => n2 od _ (by rw [e] at q; exact Option.some.inj q)⟩
theorem R.adopt {h : Hb} {p : Addr} {u w : HO} {o : Ob} (r : R K ι h H) (np : p ∉ ι) (e : H p = some w) (n1 : ∀ xs, w ≠ .tup xs) (n2 : ∀ od xs, w ≠ .frz od xs) (ho : o.own = true) (q : Ro K (ι ++ [p]) (upd H p u) p o) : R K (ι ++ [p]) (h ++ [o]) (upd H p u) := by
  have lenE := r.len
  have old : ∀ (n : Nat) (x : Ob) (a : Addr), (h ++ [o])[n]? = some x → (ι ++ [p])[n]? = some a → (h[n]? = some x ∧ ι[n]? = some a ∧ a ≠ p) ∨ (n = h.length ∧ x = o ∧ a = p) := fun n x a e ea => by
    by_cases hn : n < h.length
    · rw [List.getElem?_append_left hn] at e
      rw [List.getElem?_append_left (by omega)] at ea
      exact .inl ⟨e, ea, fun z => np (by rw [← z]; exact List.mem_of_getElem? ea)⟩
    · have hz : n = h.length := by
        have := (List.getElem?_eq_some_iff.mp e).1
        simp at this; omega
      subst hz
      rw [List.getElem?_append_right (by omega)] at e
      rw [List.getElem?_append_right (by omega), lenE] at ea
      simp at e ea
      exact .inr ⟨rfl, e.symm, ea.symm⟩
  refine ⟨by simp [lenE], fun n x a ex ea => ?_, fun n m a x x' en em ex ex' h1 h2 => ?_⟩
  · rcases old n x a ex ea with ⟨e', ea', hne⟩ | ⟨rfl, rfl, rfl⟩
    · exact Ro.mo (Mo.adopt e n1 n2) (fun vs s => sqF_upd s fun od xs k => n2 od _ (by rw [e] at k; exact Option.some.inj k)) (fun _ => upd_ne hne) (r.obj n x a e' ea')
    · exact q
  · rcases old n x a ex en with ⟨e1, ea1, hn1⟩ | ⟨rfl, rfl, rfl⟩
    · rcases old m x' a ex' em with ⟨e2, ea2, _⟩ | ⟨_, _, rfl⟩
      · exact r.inj n m a x x' ea1 ea2 e1 e2 h1 h2
      · exact absurd rfl hn1
    · rcases old m x' _ ex' em with ⟨_, _, hn2⟩ | ⟨rfl, _, _⟩
      · exact absurd rfl hn2
      · rfl
/-- all that was done with p beside -/
theorem Ext.adopt {ι2 : List Addr} {H2 : Hp} {p : Addr} {u w : HO} (hp : H p = none) (hι : p ∉ ι) (n1 : ∀ xs, w ≠ .tup xs) (n2 : ∀ od xs, w ≠ .frz od xs) (x : Ext K ι H' ι2 H2) (h' : ∀ a, a ≠ p → H' a = H a) : Ext K ι H (ι2 ++ [p]) (upd H2 p u) := by
  refine ⟨⟨fun n a e => ?_, fun a vs e => ?_, fun a o vs e => ?_⟩, fun a o n e => ?_, fun a o v e => ?_⟩
  · have := x.pre n a e
    rw [List.getElem?_append_left (List.getElem?_eq_some_iff.mp this).1]; exact this
  · have hne := ne_of_none e hp
    rw [upd_ne hne]
    exact x.tups a vs (by rw [h' a hne]; exact e)
  · have hne := ne_of_none e hp
    rw [upd_ne hne]
    exact x.lsts a o vs (by rw [h' a hne]; exact e)
  · have hne := ne_of_none e hp
    obtain ⟨e1, n1⟩ := x.frame a o n (by rw [h' a hne]; exact e)
    exact ⟨by rw [upd_ne hne]; exact e1, by simp [n1, hne]⟩
  · have hne := ne_of_none e hp
    rw [upd_ne hne]
    exact x.frzs a o v (by rw [h' a hne]; exact e)
end
end Ev

set_option Elab.async false
set_option linter.all false
set_option maxRecDepth 100000
set_option autoImplicit false
/-! Ev2: readings by the evaluator; expressions of one step. -/
namespace Ev
open PySem PySem.Spec PyProof.Rows L2
open He (ga ma)

/-! ### readings -/
/-- slots -/
structure Rn (K : PySem.W.Frag) (ι : List Addr) (H : Hp) (ρ : En) (σ : L2.St) : Prop where
  len : ρ.length = σ.length
  at_ : ∀ (i : Nat) (d : D), ρ[i]? = some (some d) → ∃ v, σ[i]? = some (some v) ∧ Rv K ι H d v
/-- an exception: its class, its own dict -/
def RX (K : PySem.W.Frag) (ι : List Addr) (H : Hp) (c : Str) (fs : List (Str × D)) (cls : Value) (d : Option Addr) : Prop :=
  cls = .ref (ga K c) ∧ ((fs = [] ∧ d = none) ∨ ∃ a ws, d = some a ∧ H a = some (.xd ws) ∧ Rkv K ι H fs ws)
/-- a result meets what is wanted -/
def Good {α β : Type} (K : PySem.W.Frag) (ι : List Addr) (H : Hp) (r : Res α) (Rel : List Addr → Hp → α → β → Prop) (Q : β → Hp → Prop) (Qx : XK) : Prop :=
  match r with
  | .ok a h' => ∀ ι' H' b, Ext K ι H ι' H' → R K ι' h' H' → Rel ι' H' a b → Q b H'
  | .exc c fs h' => ∀ ι' H' cls d, Ext K ι H ι' H' → R K ι' h' H' → RX K ι' H' c fs cls d → Qx cls d H'

section
variable {K : PySem.W.Frag} {ι ι1 : List Addr} {H H1 : Hp}
theorem Rn.mo {ρ : En} {σ : L2.St} (m : Mo K ι H ι1 H1) (r : Rn K ι H ρ σ) : Rn K ι1 H1 ρ σ :=
  ⟨r.len, fun i d e => let ⟨v, e1, q⟩ := r.at_ i d e; ⟨v, e1, q.mo m⟩⟩
theorem Good.lift {α β : Type} {r : Res α} {Rel : List Addr → Hp → α → β → Prop} {Q : β → Hp → Prop} {Qx : XK} (g : Good K ι H r Rel Q Qx) (x : Ext K ι H ι1 H1) : Good K ι1 H1 r Rel Q Qx := by
  cases r with
  | ok a h => exact fun ι' H' b x' => g ι' H' b (x.trans x')
  | exc c fs h => exact fun ι' H' cls d x' => g ι' H' cls d (x.trans x')
theorem Good.here {α β : Type} {a : α} {b : β} {h : Hb} {Rel : List Addr → Hp → α → β → Prop} {Q : β → Hp → Prop} {Qx : XK} (g : Good K ι H (.ok a h) Rel Q Qx) (hR : R K ι h H) (r : Rel ι H a b) : Q b H :=
  g ι H b Ext.refl hR r
/-- the first part's result, what it must meet -/
theorem bnd_good {α β γ δ : Type} {r1 : RO α} {f : α → Hb → RO γ} {r : Res γ} {Rel : List Addr → Hp → γ → δ → Prop} {Rel1 : List Addr → Hp → α → β → Prop} {Q : δ → Hp → Prop} {Q1 : β → Hp → Prop} {Qx : XK}
    (e : bnd r1 f = some r) (g : Good K ι H r Rel Q Qx)
    (h : ∀ (a : α) (h1 : Hb), r1 = some (.ok a h1) → f a h1 = some r → ∀ (ι' : List Addr) (H' : Hp) (b : β), Ext K ι H ι' H' → R K ι' h1 H' → Rel1 ι' H' a b → Good K ι' H' r Rel Q Qx → Q1 b H') :
    ∃ r', r1 = some r' ∧ Good K ι H r' Rel1 Q1 Qx := by
  cases r1 with
  | none => simp [bnd] at e
  | some r' =>
    refine ⟨r', rfl, ?_⟩
    cases r' with
    | ok a h1 => exact fun ι' H' b x hR rel => h a h1 rfl e ι' H' b x hR rel (g.lift x)
    | exc c fs h1 =>
      simp [bnd] at e
      subst e
      exact g
end

/-- how values answer -/
abbrev RelE (K : PySem.W.Frag) : List Addr → Hp → D → V → Prop := fun ι H d v => Rv K ι H d v
abbrev RelL (K : PySem.W.Frag) : List Addr → Hp → List D → List V → Prop := fun ι H ds vs => Rvs K ι H ds vs
abbrev RelB : List Addr → Hp → Bool → Bool → Prop := fun _ _ a b => a = b
abbrev RelO' : List Addr → Hp → Option Int → Option Int → Prop := fun _ _ a b => a = b

section
variable (K : PySem.W.Frag) (F : Fn) (W : WX)
/-- a reading by an evaluation -/
def tR {α β : Type} (Rel : List Addr → Hp → α → β → Prop) (ev : En → Hb → RO α) : L2.St → Hp → (β → Hp → Prop) → Prop := fun σ H Q =>
  ∃ ι h ρ r, R K ι h H ∧ Rn K ι H ρ σ ∧ ev ρ h = some r ∧ Good K ι H r Rel Q (fun cls d H' => W cls d σ H')
abbrev tE (x : Ex) : TE := tR K W (RelE K) (evE F x)
abbrev tLx (x : ExL) : TA := tR K W (RelL K) (evL F x)
abbrev tOx (x : OEx) : TO := tR K W RelO' (evO F x)
abbrev tT (x : Tx) : TT := tR K W RelB (evT F x)
end

/-- a rule may be chosen by what is known -/
theorem _root_.L2.PE.pick {X : Cx} {e : Expr} {t : TE} (h : ∀ σ H Q, t σ H Q → ∃ t' : TE, PE X e t' ∧ t' σ H Q) : PE X e t :=
  ⟨fun pins s σ H Q I q => let ⟨_, p, q'⟩ := h σ H Q q; p.run pins s σ H Q I q'⟩
theorem _root_.L2.PT.pick {X : Cx} {e : Expr} {t : TT} (h : ∀ σ H Q, t σ H Q → ∃ t' : TT, PT X e t' ∧ t' σ H Q) : PT X e t :=
  ⟨fun pins s σ H Q I q => let ⟨_, p, q'⟩ := h σ H Q q; p.run pins s σ H Q I q'⟩
theorem _root_.L2.PE.imp {X : Cx} {e : Expr} {t t' : TE} (p : PE X e t') (h : ∀ σ H Q, t σ H Q → t' σ H Q) : PE X e t := PE.pick fun σ H Q q => ⟨t', p, h σ H Q q⟩
theorem _root_.L2.PT.imp {X : Cx} {e : Expr} {t t' : TT} (p : PT X e t') (h : ∀ σ H Q, t σ H Q → t' σ H Q) : PT X e t := PT.pick fun σ H Q q => ⟨t', p, h σ H Q q⟩
theorem _root_.L2.PW.imp {X : Cx} {e : Expr} {t t' : TT} (p : PW X e t') (h : ∀ σ H Q, t σ H Q → t' σ H Q) : PW X e t :=
  ⟨fun wh pins s σ H Q I q => p.run wh pins s σ H Q I (h σ H Q q)⟩
theorem _root_.L2.PA.imp {X : Cx} {es : List Expr} {t t' : TA} (p : PA X es t') (h : ∀ σ H Q, t σ H Q → t' σ H Q) : PA X es t :=
  ⟨fun pos pins s σ H Q I q => p.run pos pins s σ H Q I (h σ H Q q)⟩
theorem _root_.L2.PO.imp {X : Cx} {e : Option Expr} {t t' : TO} (p : PO X e t') (h : ∀ σ H Q, t σ H Q → t' σ H Q) : PO X e t :=
  ⟨fun pins s σ H Q I q => p.run pins s σ H Q I (h σ H Q q)⟩

section
variable {X : Cx} {F : Fn} {W : WX} {pos : Pos} {j : Nat}

/-! ### names, constants -/
theorem snd_var {i : Nat} {x : Str} (hN : X.N[i]? = some x) (hv : Vis X.env.scope x) (hd : (x == ("__debug__" : Str)) = false) (hcd : (x == ("__classdict__" : Str)) = false) : PE X (.Name x pos) (tE X.K F W (.var i)) := by
  refine (pe_var hN hv hd hcd).imp ?_
  rintro σ H Q ⟨ι, h, ρ, r, hR, hn, he, g⟩
  simp only [evE] at he
  cases e : getVar ρ i with
  | none => rw [e] at he; cases he
  | some d =>
    rw [e] at he
    cases he
    have e' : ρ[i]? = some (some d) := by
      unfold getVar at e
      split at e
      · rename_i d' q; cases e; exact q
      · cases e
    obtain ⟨v, e1, q⟩ := hn.at_ i d e'
    exact ⟨v, e1, g.here hR q⟩
theorem snd_int {i : Int} : PE X (.Constant (.int i) j pos) (tE X.K F W (.int i)) := by
  refine pe_int.imp ?_
  rintro σ H Q ⟨ι, h, ρ, r, hR, hn, he, g⟩
  simp only [evE] at he; cases he
  exact g.here hR (.int i)
theorem snd_bl {b : Bool} : PE X (.Constant (.bool b) j pos) (tE X.K F W (.bl b)) := by
  refine pe_bl.imp ?_
  rintro σ H Q ⟨ι, h, ρ, r, hR, hn, he, g⟩
  simp only [evE] at he; cases he
  exact g.here hR (.bl b)
theorem snd_non : PE X (.Constant .none j pos) (tE X.K F W .non) := by
  refine pe_non.imp ?_
  rintro σ H Q ⟨ι, h, ρ, r, hR, hn, he, g⟩
  simp only [evE] at he; cases he
  exact g.here hR .non
theorem snd_str {s : Str} : PE X (.Constant (.str s) j pos) (tE X.K F W (.str s)) := by
  refine pe_str.imp ?_
  rintro σ H Q ⟨ι, h, ρ, r, hR, hn, he, g⟩
  simp only [evE] at he; cases he
  exact g.here hR (.str s)
theorem snd_gint {x : Str} {i : Int} {t : Tok} (hg : Gl X x) (hm : X.mg x = some (.int i t)) (hd : (x == ("__debug__" : Str)) = false) : PE X (.Name x pos) (tE X.K F W (.gint x i)) := by
  refine (pe_glob (v := .int i) hg hm ⟨t, rfl⟩ hd).imp ?_
  rintro σ H Q ⟨ι, h, ρ, r, hR, hn, he, g⟩
  simp only [evE] at he; cases he
  exact g.here hR (.int i)
theorem snd_gtup {x : Str} {ds : List D} {a : Addr} (hg : Gl X x) (hm : X.mg x = some (.ref a)) (hv : ∀ ι H, Rv X.K ι H (.kt ds) (.ref a)) (hd : (x == ("__debug__" : Str)) = false) : PE X (.Name x pos) (tE X.K F W (.gtup x ds)) := by
  refine (pe_glob (v := .ref a) hg hm rfl hd).imp ?_
  rintro σ H Q ⟨ι, h, ρ, r, hR, hn, he, g⟩
  simp only [evE] at he; cases he
  exact g.here hR (hv ι H)
theorem snd_bad {e : Expr} : PE X e (tE X.K F W .bad) := by
  refine ⟨fun pins s σ H Q I h => ?_⟩
  obtain ⟨ι, h, ρ, r, hR, hn, he, g⟩ := h
  simp only [evE] at he; cases he

/-! ### argument lists, displays -/
theorem star_cons {e : Expr} {es : List Expr} {env : Env} (h : ∀ a p, e ≠ .Starred a p) : starEach (e :: es) env = (false, eval e env) :: starEach es env := by
  cases e <;> first | rfl | exact absurd rfl (h _ _)
theorem snd_nil : PA X [] (tLx X.K F W .nil) := by
  refine pa_nil.imp ?_
  rintro σ H Q ⟨ι, h, ρ, r, hR, hn, he, g⟩
  simp only [evL] at he; cases he
  exact g.here hR .nil
theorem snd_cons {e : Expr} {es : List Expr} {x : Ex} {xs : ExL} (h1 : PE X e (tE X.K F W x)) (h2 : PA X es (tLx X.K F W xs)) (hs : ∀ a p, e ≠ .Starred a p) : PA X (e :: es) (tLx X.K F W (.cons x xs)) := by
  refine (pa_cons h1 h2 (star_cons hs)).imp ?_
  rintro σ H Q ⟨ι, h, ρ, r, hR, hn, he, g⟩
  simp only [evL] at he
  obtain ⟨r1, e1, g1⟩ := bnd_good (Rel1 := RelE X.K) (Q1 := fun v H1 => tLx X.K F W xs σ H1 fun vs H2 => Q (v :: vs) H2) he g fun d h1 e1 he1 ι1 H1 v x1 hR1 rv g1 => by
    obtain ⟨r2, e2, g2⟩ := bnd_good (Rel1 := RelL X.K) (Q1 := fun vs H2 => Q (v :: vs) H2) he1 g1 fun ds h2 e2 he2 ι2 H2 vs x2 hR2 rvs g2 => by
      cases he2
      exact g2.here hR2 (.cons (rv.mo x2.toMo) rvs)
    exact ⟨ι1, h1, ρ, r2, hR1, hn.mo x1.toMo, e2, g2⟩
  exact ⟨ι, h, ρ, r1, hR, hn, e1, g1⟩
theorem snd_tup {es : List Expr} {k : Nat} {xs : ExL} (h : PA X es (tLx X.K F W xs)) : PE X (.Tuple es k pos) (tE X.K F W (.tup xs)) := by
  refine (pe_tup h).imp ?_
  rintro σ H Q ⟨ι, h, ρ, r, hR, hn, he, g⟩
  simp only [evE] at he
  obtain ⟨r1, e1, g1⟩ := bnd_good (Rel1 := RelL X.K) (Q1 := fun vs H1 => vs.length ≤ sizeLine ∧ ∀ p, H1 p = none → Q (.ref p) (upd H1 p (.tup vs))) he g fun ds h1 e1 he1 ι1 H1 vs x1 hR1 rv g1 => by
    split at he1
    · rename_i hl
      cases he1
      refine ⟨by rw [← rv.length]; exact hl, fun p hp => ?_⟩
      exact g1 ι1 _ _ (Ext.tup hp) (hR1.tup hp) (.tup upd_same (rv.mo (Mo.tup hp)))
    · cases he1
  exact ⟨ι, h, ρ, r1, hR, hn, e1, g1⟩
/-- a new list -/
theorem good_new {h : Hb} {ds : List D} {vs : List V} {ι : List Addr} {H : Hp} {Q : VK} {Qx : XK} {r : Res D} {K : PySem.W.Frag} (e : newList ds h = some r) (g : Good K ι H r (RelE K) Q Qx) (hR : R K ι h H) (rv : Rvs K ι H ds vs) :
    ∀ p, H p = none → Q (.ref p) (upd H p (.lst vs)) := fun p hp => by
  unfold newList at e
  cases e
  refine g (ι ++ [p]) _ (.ref p) (Ext.new hp) (hR.new hp rfl ⟨vs, upd_same, rv.mo (Mo.new hp)⟩) (.ref ?_)
  rw [← hR.len, List.getElem?_append_right (Nat.le_refl _)]
  simp
theorem snd_lst {es : List Expr} {xs : ExL} (h : PA X es (tLx X.K F W xs)) : PE X (.List es pos) (tE X.K F W (.lst xs)) := by
  refine (pe_lst h).imp ?_
  rintro σ H Q ⟨ι, h, ρ, r, hR, hn, he, g⟩
  simp only [evE] at he
  obtain ⟨r1, e1, g1⟩ := bnd_good (Rel1 := RelL X.K) (Q1 := fun vs H1 => vs.length ≤ sizeLine ∧ ∀ p, H1 p = none → Q (.ref p) (upd H1 p (.lst vs))) he g fun ds h1 e1 he1 ι1 H1 vs x1 hR1 rv g1 => by
    split at he1
    · rename_i hl
      exact ⟨by rw [← rv.length]; exact hl, good_new he1 g1 hR1 rv⟩
    · cases he1
  exact ⟨ι, h, ρ, r1, hR, hn, e1, g1⟩
theorem snd_dnewT : PE X (.Dict [] [] pos) (tE X.K F W .dnewT) := by
  refine pe_dnewT.imp ?_
  rintro σ H Q ⟨ι, h, ρ, r, hR, hn, he, g⟩ p hp
  simp only [evE] at he; cases he
  refine g (ι ++ [p]) _ (.ref p) (Ext.new hp) (hR.new hp rfl ⟨[], upd_same, .nil⟩) (.ref ?_)
  rw [← hR.len, List.getElem?_append_right (Nat.le_refl _)]
  simp
theorem snd_dnewK : PE X (.Dict [] [] pos) (tE X.K F W .dnewK) := by
  refine pe_dnewK.imp ?_
  rintro σ H Q ⟨ι, h, ρ, r, hR, hn, he, g⟩ p hp
  simp only [evE] at he; cases he
  refine g (ι ++ [p]) _ (.ref p) (Ext.new hp) (hR.new hp rfl ⟨[], upd_same, .nil⟩) (.ref ?_)
  rw [← hR.len, List.getElem?_append_right (Nat.le_refl _)]
  simp
end
end Ev

set_option Elab.async false
set_option linter.all false
set_option maxRecDepth 100000
set_option autoImplicit false
/-! Ev3: operators, comparisons, subscripts, truth. -/
namespace Ev
open PySem PySem.Spec PyProof.Rows L2
open He (ga ma)

section
variable {K : PySem.W.Frag} {ι : List Addr} {H : Hp} {h : Hb}
/-! ### reading lists and tuples -/
theorem Rv.tup_inv {ds : List D} {v : V} (r : Rv K ι H (.tup ds) v) : ∃ a vs, v = .ref a ∧ SqT K H a vs ∧ Rvs K ι H ds vs := by
  cases r with | tup s q => exact ⟨_, _, rfl, SqT.of s, q⟩
theorem Rv.tup_raw {ds : List D} {v : V} (r : Rv K ι H (.tup ds) v) : ∃ a vs, v = .ref a ∧ H a = some (.tup vs) ∧ Rvs K ι H ds vs := by
  cases r with | tup s q => exact ⟨_, _, rfl, s, q⟩
theorem Rv.kl_inv {ds : List D} {v : V} (r : Rv K ι H (.kl ds) v) : ∃ a vs, v = .ref a ∧ SqL K H a vs ∧ Rvs K ι H ds vs := by
  cases r with | kl s q => exact ⟨_, _, rfl, s.sq, q⟩
theorem Rv.kt_inv {ds : List D} {v : V} (r : Rv K ι H (.kt ds) v) : ∃ a vs, v = .ref a ∧ SqT K H a vs ∧ Rvs K ι H ds vs := by
  cases r with | kt s q => exact ⟨_, _, rfl, .inr s, q⟩
theorem Rv.ref_inv {n : Nat} {v : V} (r : Rv K ι H (.ref n) v) : ∃ a, v = .ref a ∧ ι[n]? = some a := by
  cases r with | ref e => exact ⟨_, rfl, e⟩
theorem items_sq {n : Nat} {ds : List D} {a : Addr} (hR : R K ι h H) (e : items h n = some ds) (ea : ι[n]? = some a) : ∃ vs, SqL K H a vs ∧ Rvs K ι H ds vs := by
  unfold items at e
  split at e
  · rename_i ds' q; cases e
    obtain ⟨vs, h1, h2⟩ := hR.obj _ _ _ q ea
    exact ⟨vs, SqL.of h1, h2⟩
  · cases e
theorem lst_at {n : Nat} {ds : List D} {a : Addr} (hR : R K ι h H) (e : h[n]? = some (.lst ds)) (ea : ι[n]? = some a) : ∃ vs, H a = some (.lst vs) ∧ Rvs K ι H ds vs := hR.obj _ _ _ e ea

/-! ### data -/
theorem mapM_rvs {ds : List D} {vs : List V} {ps : List PyData} {f : D → Option PyData} (hf : ∀ d v p, f d = some p → Rv K ι H d v → Dp K H v p) (e : ds.mapM f = some ps) (r : Rvs K ι H ds vs) : DpAll K H vs ps := by
  induction ds generalizing vs ps with
  | nil => cases r; simp at e; subst e; exact .nil
  | cons d ds ih =>
    cases r with
    | cons a b =>
      simp [List.mapM_cons, Option.bind_eq_bind, Option.bind_eq_some_iff] at e
      obtain ⟨p, hp, qs, hq, rfl⟩ := e
      exact .cons (hf _ _ _ hp a) (ih hq b)
theorem toPy_dp (hR : R K ι h H) : ∀ (n : Nat) (d : D) (v : V) (p : PyData), toPy n h d = some p → Rv K ι H d v → Dp K H v p := by
  intro n
  induction n with
  | zero => intro d v p e; simp [toPy] at e
  | succ n ih =>
    intro d v p e r
    cases d with
    | non => cases r; simp [toPy] at e; subst e; exact .non
    | bl b => cases r; simp [toPy] at e; subst e; exact .bl b
    | int i => cases r; simp [toPy] at e; subst e; exact .int i
    | str s => cases r; simp [toPy] at e; subst e; exact .str s
    | tup ds =>
      obtain ⟨a, vs, rfl, s, q⟩ := r.tup_inv
      simp only [toPy, Option.map_eq_some_iff] at e
      obtain ⟨ps, e, rfl⟩ := e
      exact .tup s (mapM_rvs ih e q)
    | ref k =>
      obtain ⟨a, rfl, ea⟩ := r.ref_inv
      have z : ∃ ds ps, items h k = some ds ∧ ds.mapM (toPy n h) = some ps ∧ p = .list ps := by
        simp only [toPy] at e
        unfold items
        split at e
        · rename_i ds q
          simp only [Option.map_eq_some_iff] at e
          obtain ⟨ps, e, rfl⟩ := e
          exact ⟨ds, ps, rfl, e, rfl⟩
        · cases e
      obtain ⟨ds, ps, e1, e2, rfl⟩ := z
      obtain ⟨vs, s, q⟩ := items_sq hR e1 ea
      exact .lst s (mapM_rvs ih e2 q)
    | kt ds =>
      obtain ⟨a, vs, rfl, s, q⟩ := r.kt_inv
      simp only [toPy, Option.map_eq_some_iff] at e
      obtain ⟨ps, e, rfl⟩ := e
      exact .tup s (mapM_rvs ih e q)
    | kl ds => simp [toPy] at e

/-! ### comparisons -/
theorem scalEq_ok {x y : D} {v u : V} {b : Bool} (e : scalEq x y = some b) (rx : Rv K ι H x v) (ry : Rv K ι H y u) : scal v u = true ∧ decide (v = u) = b := by
  cases rx <;> cases ry <;> simp [scalEq] at e <;> subst e <;> simp [scal]
theorem flatV_of {x : D} {v : V} (f : flat x = true) (r : Rv K ι H x v) : flatV v = true := by
  cases r <;> simp [flat] at f <;> rfl
theorem flatVs_of {xs : List D} {vs : List V} (f : xs.all flat = true) (r : Rvs K ι H xs vs) : vs.all flatV = true := by
  induction xs generalizing vs with
  | nil => cases r; rfl
  | cons x xs ih => cases r with
    | cons a b =>
      simp only [List.all_cons, Bool.and_eq_true] at f ⊢
      exact ⟨flatV_of f.1 a, ih f.2 b⟩
theorem flatEq_ok {x y : D} {v u : V} (fx : flat x = true) (fy : flat y = true) (rx : Rv K ι H x v) (ry : Rv K ι H y u) : flatEq x y = eqV v u := by
  cases rx <;> simp [flat] at fx <;> cases ry <;> simp [flat] at fy <;> rfl
theorem inV_ok {x : D} {v : V} {xs : List D} {vs : List V} (fx : flat x = true) (fs : xs.all flat = true) (rx : Rv K ι H x v) (r : Rvs K ι H xs vs) : (xs.any fun d => flatEq d x) = inV v vs := by
  induction xs generalizing vs with
  | nil => cases r; rfl
  | cons y xs ih => cases r with
    | cons a b =>
      simp only [List.all_cons, Bool.and_eq_true] at fs
      simp only [List.any_cons, inV]
      rw [flatEq_ok fs.1 fx a rx]
      have := ih fs.2 b
      simp only [inV] at this
      rw [this]

def rNo : R2 := fun _ _ _ _ => False
theorem opNo {X : Cx} {f : Value → Value → Sem Value} : OpR X f rNo := fun _ _ _ _ _ _ _ _ _ _ _ _ q => q.elim
/-- x is True, x is False of what is no object -/
def rIsB : R2 := fun x y H Q => (x = .non ∨ (∃ i, x = .int i) ∨ ∃ s, x = .str s) ∧ (∃ b, y = .bl b) ∧ Q (.bl false) H
def rIsnotB : R2 := fun x y H Q => (x = .non ∨ (∃ i, x = .int i) ∨ ∃ s, x = .str s) ∧ (∃ b, y = .bl b) ∧ Q (.bl true) H

theorem op_isB {X : Cx} : OpR X (compareOp .Is) rIsB := by
  intro pins s σ H x y v u Q I rx ry h
  obtain ⟨hx, ⟨b, rfl⟩, q⟩ := h
  cases (show u = Value.bool b from ry)
  rcases hx with rfl | ⟨i, rfl⟩ | ⟨z, rfl⟩
  · cases (show v = Value.none from rx)
    exact wpAny_is_other rfl (by intro z; cases z) ⟨.bl false, H, I, rfl, q⟩
  · obtain ⟨t, rfl⟩ := (show ∃ t, v = Value.int i t from rx)
    exact wpAny_is_other rfl (by intro z; cases z) ⟨.bl false, H, I, rfl, q⟩
  · obtain ⟨t, rfl⟩ := (show ∃ t, v = Value.str z t from rx)
    exact wpAny_is_other rfl (by intro z; cases z) ⟨.bl false, H, I, rfl, q⟩
theorem op_isnotB {X : Cx} : OpR X (compareOp .IsNot) rIsnotB := by
  intro pins s σ H x y v u Q I rx ry h
  obtain ⟨hx, ⟨b, rfl⟩, q⟩ := h
  cases (show u = Value.bool b from ry)
  rcases hx with rfl | ⟨i, rfl⟩ | ⟨z, rfl⟩
  · cases (show v = Value.none from rx)
    exact wpAny_isNot_other rfl (by intro z; cases z) ⟨.bl true, H, I, rfl, q⟩
  · obtain ⟨t, rfl⟩ := (show ∃ t, v = Value.int i t from rx)
    exact wpAny_isNot_other rfl (by intro z; cases z) ⟨.bl true, H, I, rfl, q⟩
  · obtain ⟨t, rfl⟩ := (show ∃ t, v = Value.str z t from rx)
    exact wpAny_isNot_other rfl (by intro z; cases z) ⟨.bl true, H, I, rfl, q⟩

/-- in a tuple, data of any depth -/
def rInT (K : PySem.W.Frag) : R2 := fun x y H Q => ∃ d ds, Dp K H x d ∧ Dp K H y (.tuple ds) ∧ SeqAt.shaped d = true ∧ SeqAt.shaped (.tuple ds) = true ∧ Q (.bl (ds.any fun z => PyData.eqv z d)) H
def rNotInT (K : PySem.W.Frag) : R2 := fun x y H Q => ∃ d ds, Dp K H x d ∧ Dp K H y (.tuple ds) ∧ SeqAt.shaped d = true ∧ SeqAt.shaped (.tuple ds) = true ∧ Q (.bl (!ds.any fun z => PyData.eqv z d)) H
theorem room_tup {A : Around} {d : PyData} {ds : List PyData} (h : SeqAt.shaped d = true) (hu : A.units + 65 < cLine) : A.units + 1 + min (PyData.depthAll ds) d.depth < cLine := by
  have h1 := SeqAt.depth_of_shaped h
  have h2 : min (PyData.depthAll ds) d.depth ≤ d.depth := Nat.min_le_right _ _
  omega
theorem op_inT {X : Cx} (hu : X.A.units + 65 < cLine) : OpR X (compareOp .In) (rInT X.K) := by
  intro pins s σ H x y v u Q I rx ry h
  obtain ⟨d, ds, hd, he, sd, se, q⟩ := h
  obtain ⟨as, r1⟩ := Dp.reads I d x v hd rx
  obtain ⟨bs, r2⟩ := Dp.reads I (.tuple ds) y u he ry
  exact SeqAt.in_tuple_reads r2 r1 (SeqAt.canLay_of_shaped se) (SeqAt.canLay_of_shaped sd) (room_tup sd hu) ⟨.bl _, H, I, rfl, q⟩
theorem op_notInT {X : Cx} (hu : X.A.units + 65 < cLine) : OpR X (compareOp .NotIn) (rNotInT X.K) := by
  intro pins s σ H x y v u Q I rx ry h
  obtain ⟨d, ds, hd, he, sd, se, q⟩ := h
  obtain ⟨as, r1⟩ := Dp.reads I d x v hd rx
  obtain ⟨bs, r2⟩ := Dp.reads I (.tuple ds) y u he ry
  exact SeqAt.notIn_tuple_reads r2 r1 (SeqAt.canLay_of_shaped se) (SeqAt.canLay_of_shaped sd) (room_tup sd hu) ⟨.bl _, H, I, rfl, q⟩
def rTup (K : PySem.W.Frag) (neg : Bool) (x : D) (ds : List D) : R2 := if flat x = true ∧ ds.all flat = true then rIn K neg else (if neg then rNotInT K else rInT K)
theorem opTup {X : Cx} (hu : X.A.units + 65 < cLine) (x : D) (ds : List D) : OpR X (compareOp .In) (rTup X.K false x ds) := by
  unfold rTup
  split
  · exact op_in_seq
  · exact op_inT hu
theorem opTupN {X : Cx} (hu : X.A.units + 65 < cLine) (x : D) (ds : List D) : OpR X (compareOp .NotIn) (rTup X.K true x ds) := by
  unfold rTup
  split
  · exact op_notIn_seq
  · exact op_notInT hu
/-- the rule of a comparison, by the values -/
def rCmp (K : PySem.W.Frag) (op : CmpOp) (h : Hb) (x y : D) : R2 :=
  match op with
  | .Eq => if scalar x = true ∧ scalar y = true then rEq else rEqD K
  | .NotEq => if scalar x = true ∧ scalar y = true then rNe else rNeD K
  | .Lt => rI0 fun i j => .bl (decide (i < j))
  | .LtE => rI0 fun i j => .bl (decide (i ≤ j))
  | .Gt => rI0 fun i j => .bl (decide (j < i))
  | .GtE => rI0 fun i j => .bl (decide (j ≤ i))
  | .Is => match x, y with
    | _, .non => fun x y H Q => y = .non ∧ Q (.bl (decide (x = .non))) H
    | .bl _, .bl _ => fun x y H Q => ∃ a b, x = .bl a ∧ y = .bl b ∧ Q (.bl (decide (a = b))) H
    | _, _ => rIsB
  | .IsNot => match x, y with
    | _, .non => fun x y H Q => y = .non ∧ Q (.bl (!decide (x = .non))) H
    | .bl _, .bl _ => fun x y H Q => ∃ a b, x = .bl a ∧ y = .bl b ∧ Q (.bl (!decide (a = b))) H
    | _, _ => rIsnotB
  | .In => match y with
    | .tup ds => rTup K false x ds
    | .kt ds => rTup K false x ds
    | .ref n => match items h n with
      | some ds => if flat x = true ∧ ds.all flat = true then rIn K false else rInD K
      | none => rNo
    | _ => rNo
  | .NotIn => match y with
    | .tup ds => rTup K true x ds
    | .kt ds => rTup K true x ds
    | .ref n => match items h n with
      | some ds => if flat x = true ∧ ds.all flat = true then rIn K true else rNotInD K
      | none => rNo
    | _ => rNo
theorem opCmp {X : Cx} (hu : X.A.units + 65 < cLine) (op : CmpOp) (h : Hb) (x y : D) : OpR X (compareOp op) (rCmp X.K op h x y) := by
  cases op with
  | Eq =>
    unfold rCmp; simp only
    split
    · exact op_eq
    · exact op_eqD (by omega)
  | NotEq =>
    unfold rCmp; simp only
    split
    · exact op_ne
    · exact op_neD (by omega)
  | Lt => exact op_lt
  | LtE => exact op_le
  | Gt => exact op_gt
  | GtE => exact op_ge
  | Is =>
    unfold rCmp; simp only
    split
    · exact op_isN
    · exact op_is_bl
    · exact op_isB
  | IsNot =>
    unfold rCmp; simp only
    split
    · exact op_notN
    · exact op_isnot_bl
    · exact op_isnotB
  | In =>
    unfold rCmp; simp only
    split
    · exact opTup hu _ _
    · exact opTup hu _ _
    · split
      · split
        · exact op_in_seq
        · exact op_inD hu
      · exact opNo
    · exact opNo
  | NotIn =>
    unfold rCmp; simp only
    split
    · exact opTupN hu _ _
    · exact opTupN hu _ _
    · split
      · split
        · exact op_notIn_seq
        · exact op_notInD hu
      · exact opNo
    · exact opNo
theorem decide_dneg {a : Bool} {b : Bool} (h : a = b) : (!a) = !b := by rw [h]
theorem cmp_ok {op : CmpOp} {x y : D} {v u : V} {c : Bool} {Q : VK} (e : cmpD op h x y = some c) (hR : R K ι h H) (rx : Rv K ι H x v) (ry : Rv K ι H y u) (q : Q (.bl c) H) : rCmp K op h x y v u H Q := by
  have deep : ∀ {b : Bool}, deepEq h x y = some b → ∃ d e, Dp K H v d ∧ Dp K H u e ∧ SeqAt.shaped d = true ∧ SeqAt.shaped e = true ∧ PyData.eqv d e = b := fun {b} e => by
    unfold deepEq at e
    split at e
    · rename_i a b' ea eb
      split at e
      · rename_i hs
        cases e
        exact ⟨a, b', toPy_dp hR _ _ _ _ ea rx, toPy_dp hR _ _ _ _ eb ry, hs.1, hs.2, rfl⟩
      · cases e
    · cases e
  have indeep : ∀ {n : Nat} {a : PyData} {bs : List PyData}, y = .ref n → toPy 60 h x = some a → toPy 60 h y = some (.list bs) → Dp K H v a ∧ Dp K H u (.list bs) := fun {n a bs} _ ea eb =>
    ⟨toPy_dp hR _ _ _ _ ea rx, toPy_dp hR _ _ _ _ eb ry⟩
  have inTup_ok : ∀ {neg : Bool} {b : Bool} {ds : List D}, inTup h x y ds = some b → (∃ a vs, u = .ref a ∧ SqT K H a vs ∧ Rvs K ι H ds vs) → Q (.bl (if neg then !b else b)) H → rTup K neg x ds v u H Q := fun {neg b ds} e st q => by
    obtain ⟨a, vs, rfl, s, r⟩ := st
    unfold inTup at e
    unfold rTup
    split at e
    · rename_i hf
      cases e
      rw [if_pos hf]
      exact ⟨a, vs, rfl, .inr s, flatV_of hf.1 rx, flatVs_of hf.2 r, by rw [inV_ok hf.1 hf.2 rx r] at q; exact q⟩
    · rename_i hf
      rw [if_neg hf]
      split at e
      · rename_i pa bs ea' eb'
        split at e
        · rename_i hs
          cases e
          have z1 := toPy_dp hR _ _ _ _ ea' rx
          have z2 := toPy_dp hR _ _ _ _ eb' ry
          cases neg with
          | false => exact ⟨pa, bs, z1, z2, hs.1, hs.2, q⟩
          | true => exact ⟨pa, bs, z1, z2, hs.1, hs.2, q⟩
        · cases e
      · cases e
  have inn : ∀ {neg : Bool} {b : Bool}, inD h x y = some b → Q (.bl (if neg then !b else b)) H → (match y with
    | .tup ds => rTup K neg x ds
    | .kt ds => rTup K neg x ds
    | .ref n => match items h n with
      | some ds => if flat x = true ∧ ds.all flat = true then rIn K neg else (if neg then rNotInD K else rInD K)
      | none => rNo
    | _ => rNo) v u H Q := fun {neg b} e q => by
    unfold inD at e
    split at e
    · rename_i ds
      obtain ⟨a, vs, rfl, s, r⟩ := ry.tup_inv
      exact inTup_ok e ⟨a, vs, rfl, s, r⟩ q
    · rename_i ds
      obtain ⟨a, vs, rfl, s, r⟩ := ry.kt_inv
      exact inTup_ok e ⟨a, vs, rfl, s, r⟩ q
    · rename_i n
      obtain ⟨a, rfl, ea⟩ := ry.ref_inv
      split at e
      · rename_i ds ei
        simp only [ei]
        obtain ⟨vs, s, r⟩ := items_sq hR ei ea
        split at e
        · rename_i hf
          cases e
          rw [if_pos hf]
          exact ⟨a, vs, rfl, .inl s, flatV_of hf.1 rx, flatVs_of hf.2 r, by rw [inV_ok hf.1 hf.2 rx r] at q; exact q⟩
        · rename_i hf
          rw [if_neg hf]
          split at e
          · rename_i pa bs ea' eb'
            split at e
            · rename_i hs
              cases e
              have z := indeep rfl ea' eb'
              cases neg with
              | false => exact ⟨pa, bs, z.1, z.2, hs.1, hs.2, q⟩
              | true => exact ⟨pa, bs, z.1, z.2, hs.1, hs.2, q⟩
            · cases e
          · cases e
      · cases e
    · cases e
  cases op with
  | Eq =>
    simp only [cmpD, eqD] at e
    unfold rCmp; simp only
    split at e
    · rename_i hs
      rw [if_pos hs]
      obtain ⟨h1, h2⟩ := scalEq_ok e rx ry
      exact ⟨h1, by rw [h2]; exact q⟩
    · rename_i hs
      rw [if_neg hs]
      obtain ⟨d, e', h1, h2, h3, h4, h5⟩ := deep e
      exact ⟨d, e', h1, h2, h3, h4, by rw [h5]; exact q⟩
  | NotEq =>
    simp only [cmpD, eqD, Option.map_eq_some_iff] at e
    unfold rCmp; simp only
    obtain ⟨b, e, rfl⟩ := e
    split at e
    · rename_i hs
      rw [if_pos hs]
      obtain ⟨h1, h2⟩ := scalEq_ok e rx ry
      exact ⟨h1, by rw [h2]; exact q⟩
    · rename_i hs
      rw [if_neg hs]
      obtain ⟨d, e', h1, h2, h3, h4, h5⟩ := deep e
      exact ⟨d, e', h1, h2, h3, h4, by rw [h5]; exact q⟩
  | Lt =>
    simp only [cmpD] at e
    split at e <;> cases e
    cases rx; cases ry
    exact ⟨_, _, rfl, rfl, q⟩
  | LtE =>
    simp only [cmpD] at e
    split at e <;> cases e
    cases rx; cases ry
    exact ⟨_, _, rfl, rfl, q⟩
  | Gt =>
    simp only [cmpD] at e
    split at e <;> cases e
    cases rx; cases ry
    exact ⟨_, _, rfl, rfl, q⟩
  | GtE =>
    simp only [cmpD] at e
    split at e <;> cases e
    cases rx; cases ry
    exact ⟨_, _, rfl, rfl, q⟩
  | Is =>
    simp only [cmpD] at e
    unfold rCmp; simp only
    unfold isD at e
    split at e
    · cases e
      cases ry
      refine ⟨rfl, ?_⟩
      cases rx <;> simpa using q
    · cases e; cases rx; cases ry; exact ⟨.inl rfl, ⟨_, rfl⟩, q⟩
    · cases e; cases rx; cases ry; exact ⟨.inr (.inl ⟨_, rfl⟩), ⟨_, rfl⟩, q⟩
    · cases e; cases rx; cases ry; exact ⟨.inr (.inr ⟨_, rfl⟩), ⟨_, rfl⟩, q⟩
    · cases e; cases rx; cases ry; exact ⟨_, _, rfl, rfl, q⟩
    · cases e
  | IsNot =>
    simp only [cmpD, Option.map_eq_some_iff] at e
    obtain ⟨b, e, rfl⟩ := e
    unfold rCmp; simp only
    unfold isD at e
    split at e
    · cases e
      cases ry
      refine ⟨rfl, ?_⟩
      cases rx <;> simpa using q
    · cases e; cases rx; cases ry; exact ⟨.inl rfl, ⟨_, rfl⟩, q⟩
    · cases e; cases rx; cases ry; exact ⟨.inr (.inl ⟨_, rfl⟩), ⟨_, rfl⟩, q⟩
    · cases e; cases rx; cases ry; exact ⟨.inr (.inr ⟨_, rfl⟩), ⟨_, rfl⟩, q⟩
    · cases e; cases rx; cases ry; exact ⟨_, _, rfl, rfl, q⟩
    · cases e
  | In =>
    simp only [cmpD] at e
    have z := inn (neg := false) e q
    unfold rCmp; simp only
    simpa using z
  | NotIn =>
    simp only [cmpD, Option.map_eq_some_iff] at e
    obtain ⟨b, e, rfl⟩ := e
    have z := inn (neg := true) (b := b) e q
    unfold rCmp; simp only
    simpa using z
end
end Ev

set_option Elab.async false
set_option linter.all false
set_option maxRecDepth 100000
set_option autoImplicit false
/-! Ev4: expressions: operators, tests, subscripts, attributes, built-in functions. -/
namespace Ev
open PySem PySem.Spec PyProof.Rows L2
open He (ga ma)

section
variable {K : PySem.W.Frag} {ι : List Addr} {H : Hp} {h : Hb}
/-- the rule of an operator, by the values -/
def rBin (K : PySem.W.Frag) (op : Operator) (x y : D) : R2 :=
  match op, x, y with
  | .Add, .int _, .int _ => rI0 fun i j => .int (i + j)
  | .Add, .str _, .str _ => fun x y H Q => ∃ i j, x = .str i ∧ y = .str j ∧ i.length + j.length ≤ sizeLine ∧ Q (.str (i ++ j)) H
  | .Add, .tup _, .tup _ => rCatT K
  | .Add, .ref _, .ref _ => rCat
  | .Sub, _, _ => rI0 fun i j => .int (i - j)
  | .Mult, _, _ => rI CMul fun i j => .int (i * j)
  | .FloorDiv, _, _ => rI CDiv fun i j => .int (i / j)
  | .Mod, _, _ => rI (fun _ j => 0 < j) fun i j => .int (i % j)
  | .Pow, _, _ => rI CPow fun i j => .int (i ^ j.toNat)
  | _, _, _ => rNo
theorem opBin {X : Cx} (op : Operator) (x y : D) : OpR X (binaryOp op) (rBin X.K op x y) := by
  unfold rBin
  split
  · exact op_add
  · exact op_add_str
  · exact op_catT
  · exact op_cat
  · exact op_sub
  · exact op_mul
  · exact op_fdiv
  · exact op_mod
  · exact op_pow
  · exact opNo
theorem bin_ok {op : Operator} {x y : D} {v u : V} {r : Res D} {Q : VK} {Qx : XK} (e : nvRes (binD op h x y) h = some r) (hR : R K ι h H) (rx : Rv K ι H x v) (ry : Rv K ι H y u) (g : Good K ι H r (RelE K) Q Qx) : rBin K op x y v u H Q := by
  unfold binD at e
  split at e
  · cases e; cases rx; cases ry
    exact ⟨_, _, rfl, rfl, g.here hR (.int _)⟩
  · split at e
    · rename_i hl
      cases e; cases rx; cases ry
      exact ⟨_, _, rfl, rfl, hl, g.here hR (.str _)⟩
    · cases e
  · split at e
    · rename_i xs ys hl
      cases e
      obtain ⟨a, vs, rfl, s1, r1⟩ := rx.tup_inv
      obtain ⟨b, us, rfl, s2, r2⟩ := ry.tup_inv
      refine ⟨a, b, vs, us, rfl, rfl, s1, s2, ?_, ?_, ?_⟩
      · intro z; subst z; cases r1; exact hl.1 rfl
      · rw [← r1.length, ← r2.length]; exact hl.2
      · refine ⟨fun z => ?_, fun _ p hp => ?_⟩
        · subst z
          cases r2
          rw [List.append_nil] at g
          exact g.here hR rx
        exact g ι _ _ (Ext.tup hp) (hR.tup hp) (.tup upd_same ((r1.append r2).mo (Mo.tup hp)))
    · cases e
  · obtain ⟨a, rfl, ea⟩ := rx.ref_inv
    obtain ⟨b, rfl, eb⟩ := ry.ref_inv
    split at e
    · rename_i xs ys q1 q2
      split at e
      · rename_i hl
        obtain ⟨vs, h1, r1⟩ := lst_at hR q1 ea
        obtain ⟨us, h2, r2⟩ := lst_at hR q2 eb
        refine ⟨a, b, vs, us, rfl, rfl, h1, h2, by rw [← r1.length, ← r2.length]; exact hl, ?_⟩
        exact good_new e g hR (r1.append r2)
      · cases e
    · cases e
  · cases e; cases rx; cases ry
    exact ⟨_, _, rfl, rfl, g.here hR (.int _)⟩
  · split at e
    · rename_i hl
      cases e; cases rx; cases ry
      refine ⟨_, _, rfl, rfl, ?_, g.here hR (.int _)⟩
      unfold small64 at hl
      simp only [decide_eq_true_eq] at hl
      exact hl
    · cases e
  · split at e
    · rename_i hl
      cases e; cases rx; cases ry
      exact ⟨_, _, rfl, rfl, hl, g.here hR (.int _)⟩
    · cases e
  · split at e
    · rename_i hl
      cases e; cases rx; cases ry
      exact ⟨_, _, rfl, rfl, hl, g.here hR (.int _)⟩
    · cases e
  · split at e
    · rename_i hl
      cases e; cases rx; cases ry
      exact ⟨_, _, rfl, rfl, hl, g.here hR (.int _)⟩
    · cases e
  · cases e
end

theorem bnd_inv {α β : Type} {r : RO α} {f : α → Hb → RO β} {b : β} {h' : Hb} (e : bnd r f = some (.ok b h')) : ∃ a h1, r = some (.ok a h1) ∧ f a h1 = some (.ok b h') := by
  cases r with
  | none => simp [bnd] at e
  | some r' =>
    cases r' with
    | ok a h1 => exact ⟨a, h1, rfl, e⟩
    | exc c fs h1 => simp [bnd] at e
/-- a rule of two operands, chosen by their values -/
def pk2 (r1 : RO D) (f : Hb → RO D) (k : Hb → D → D → R2) : R2 :=
  match r1 with
  | some (.ok x h1) => match f h1 with
    | some (.ok y h2) => k h2 x y
    | _ => rNo
  | _ => rNo
theorem opPk2 {X : Cx} {f : Value → Value → Sem Value} {r1 : RO D} {g : Hb → RO D} {k : Hb → D → D → R2} (hk : ∀ h x y, OpR X f (k h x y)) : OpR X f (pk2 r1 g k) := by
  unfold pk2
  split
  · split
    · exact hk _ _ _
    · exact opNo
  · exact opNo
section
variable {X : Cx} {F : Fn} {W : WX} {pos : Pos} {a b c : Expr} {xa xb xc : Ex}

/-- two operands, then a rule -/
theorem two_ok {k : Hb → D → D → R2} {fin : Hb → D → D → RO D} {σ : L2.St} {H : Hp} {Q : VK} {K : PySem.W.Frag} {ι : List Addr} {h : Hb} {ρ : En} {r : Res D} (hR : R K ι h H) (hn : Rn K ι H ρ σ)
    (he : (bnd (evE F xa ρ h) fun x h1 => bnd (evE F xb ρ h1) fun y h2 => fin h2 x y) = some r) (g : Good K ι H r (RelE K) Q (fun cls d H' => W cls d σ H'))
    (hfin : ∀ (ι2 : List Addr) (H2 : Hp) (h2 : Hb) (x y : D) (v u : V), fin h2 x y = some r → R K ι2 h2 H2 → Rv K ι2 H2 x v → Rv K ι2 H2 y u → Good K ι2 H2 r (RelE K) Q (fun cls d H' => W cls d σ H') → k h2 x y v u H2 Q) :
    tOp (pk2 (evE F xa ρ h) (fun h1 => evE F xb ρ h1) k) (tE K F W xa) (tE K F W xb) σ H Q := by
  obtain ⟨r1, e1, g1⟩ := bnd_good (Rel1 := RelE K) (Q1 := fun v H1 => tE K F W xb σ H1 fun u H2 => pk2 (evE F xa ρ h) (fun h1 => evE F xb ρ h1) k v u H2 Q) he g fun x h1 e1 he1 ι1 H1 v x1 hR1 rv g1 => by
    obtain ⟨r2, e2, g2⟩ := bnd_good (Rel1 := RelE K) (Q1 := fun u H2 => pk2 (evE F xa ρ h) (fun h1 => evE F xb ρ h1) k v u H2 Q) he1 g1 fun y h2 e2 he2 ι2 H2 u x2 hR2 ru g2 => by
      have q := hfin ι2 H2 h2 x y v u he2 hR2 (rv.mo x2.toMo) ru g2
      unfold pk2
      rw [e1]; simp only
      rw [e2]; exact q
    exact ⟨ι1, h1, ρ, r2, hR1, hn.mo x1.toMo, e2, g2⟩
  exact ⟨ι, h, ρ, r1, hR, hn, e1, g1⟩

theorem snd_bin {op : Operator} (ha : PE X a (tE X.K F W xa)) (hb : PE X b (tE X.K F W xb)) : PE X (.BinOp a op b pos) (tE X.K F W (.bin op xa xb)) := by
  refine PE.pick ?_
  rintro σ H Q ⟨ι, h, ρ, r, hR, hn, he, g⟩
  simp only [evE] at he
  refine ⟨tOp (pk2 (evE F xa ρ h) (fun h1 => evE F xb ρ h1) fun _ x y => rBin X.K op x y) _ _, pe_op (opPk2 fun _ x y => opBin op x y) ha hb, ?_⟩
  exact two_ok (k := fun _ x y => rBin X.K op x y) (fin := fun h2 x y => nvRes (binD op h2 x y) h2) hR hn he g fun ι2 H2 h2 x y v u e hR2 rv ru g2 => bin_ok e hR2 rv ru g2
theorem cmp_fin {op : CmpOp} {Q : VK} {K : PySem.W.Frag} {ι2 : List Addr} {H2 : Hp} {h2 : Hb} {x y : D} {v u : V} {r : Res D} {Qx : XK} (e : (match cmpD op h2 x y with
    | some c => some (Res.ok (D.bl c) h2)
    | none => none) = some r) (hR2 : R K ι2 h2 H2) (rv : Rv K ι2 H2 x v) (ru : Rv K ι2 H2 y u) (g2 : Good K ι2 H2 r (RelE K) Q Qx) : rCmp K op h2 x y v u H2 Q := by
  split at e
  · rename_i c q
    cases e
    exact cmp_ok q hR2 rv ru (g2.here hR2 (.bl c))
  · cases e
theorem snd_cmp {op : CmpOp} (hu : X.A.units + 65 < cLine) (ha : PE X a (tE X.K F W xa)) (hb : PE X b (tE X.K F W xb)) (hm : behindInMarks op b = false) : PE X (.Compare a [op] [b] pos) (tE X.K F W (.cmp op xa xb)) := by
  refine PE.pick ?_
  rintro σ H Q ⟨ι, h, ρ, r, hR, hn, he, g⟩
  simp only [evE] at he
  refine ⟨tOp (pk2 (evE F xa ρ h) (fun h1 => evE F xb ρ h1) fun h x y => rCmp X.K op h x y) _ _, pe_cmpR (opPk2 fun h x y => opCmp hu op h x y) ha hb hm, ?_⟩
  exact two_ok (k := fun h x y => rCmp X.K op h x y) (fin := fun h2 x y => match cmpD op h2 x y with
    | some c => some (.ok (.bl c) h2)
    | none => none) hR hn he g fun ι2 H2 h2 x y v u e hR2 rv ru g2 => cmp_fin e hR2 rv ru g2
/-- a comparison as a test -/
theorem snd_cmpT {op : CmpOp} (hu : X.A.units + 65 < cLine) (ha : PE X a (tE X.K F W xa)) (hb : PE X b (tE X.K F W xb)) (hm : behindInMarks op b = false) : PT X (.Compare a [op] [b] pos) (tT X.K F W (.ex (.cmp op xa xb))) := by
  refine PT.pick ?_
  rintro σ H Q ⟨ι, h, ρ, r, hR, hn, he, g⟩
  simp only [evT] at he
  obtain ⟨r1, e1, g1⟩ := bnd_good (Rel1 := RelE X.K) (Q1 := fun v H' => ∃ k, v = .bl k ∧ Q k H') he g fun d h1 e1 he1 ι1 H1 v x1 hR1 rv g1 => by
    have ev := e1
    simp only [evE] at ev
    obtain ⟨c, ec⟩ : ∃ c, d = .bl c := by
      obtain ⟨p1, q1, _, ev⟩ := bnd_inv ev
      obtain ⟨p2, q2, _, ev⟩ := bnd_inv ev
      split at ev
      · cases ev; exact ⟨_, rfl⟩
      · cases ev
    subst ec
    cases rv
    simp [tru] at he1
    subst he1
    exact ⟨c, rfl, g1.here hR1 rfl⟩
  refine ⟨tTest (tOp (pk2 (evE F xa ρ h) (fun h1 => evE F xb ρ h1) fun h x y => rCmp X.K op h x y) _ _), pt_cmpR (opPk2 fun h x y => opCmp hu op h x y) ha hb hm, ?_⟩
  simp only [evE] at e1
  exact two_ok (k := fun h x y => rCmp X.K op h x y) (fin := fun h2 x y => match cmpD op h2 x y with
    | some c => some (.ok (.bl c) h2)
    | none => none) hR hn e1 g1 fun ι2 H2 h2 x y v u e hR2 rv ru g2 => cmp_fin e hR2 rv ru g2
theorem evT_cmp {op : CmpOp} {ρ : En} {h : Hb} : evT F (.cmp op xa xb) ρ h = evT F (.ex (.cmp op xa xb)) ρ h := by
  simp only [evT, evE]
  cases evE F xa ρ h with
  | none => rfl
  | some r1 =>
    cases r1 with
    | exc _ _ _ => rfl
    | ok x h1 =>
      simp only [bnd]
      cases evE F xb ρ h1 with
      | none => rfl
      | some r2 =>
        cases r2 with
        | exc _ _ _ => rfl
        | ok y h2 =>
          simp only
          cases cmpD op h2 x y <;> rfl
theorem snd_cmpC {op : CmpOp} (hu : X.A.units + 65 < cLine) (ha : PE X a (tE X.K F W xa)) (hb : PE X b (tE X.K F W xb)) (hm : behindInMarks op b = false) : PT X (.Compare a [op] [b] pos) (tT X.K F W (.cmp op xa xb)) :=
  (snd_cmpT hu ha hb hm).imp fun σ H Q ⟨ι, h, ρ, r, hR, hn, he, g⟩ => ⟨ι, h, ρ, r, hR, hn, by rw [← evT_cmp]; exact he, g⟩
theorem snd_neg (ha : PE X a (tE X.K F W xa)) : PE X (.UnaryOp .USub a pos) (tE X.K F W (.neg xa)) := by
  refine (pe_un un_neg ha).imp ?_
  rintro σ H Q ⟨ι, h, ρ, r, hR, hn, he, g⟩
  simp only [evE] at he
  obtain ⟨r1, e1, g1⟩ := bnd_good (Rel1 := RelE X.K) (Q1 := fun v H1 => rU (fun i => .int (-i)) v H1 Q) he g fun d h1 e1 he1 ι1 H1 v x1 hR1 rv g1 => by
    split at he1
    · cases he1; cases rv; exact ⟨_, rfl, g1.here hR1 (.int _)⟩
    · cases he1
  exact ⟨ι, h, ρ, r1, hR, hn, e1, g1⟩
theorem snd_notv (ha : PE X a (tE X.K F W xa)) : PE X (.UnaryOp .Not a pos) (tE X.K F W (.notv xa)) := by
  refine (pe_not ha).imp ?_
  rintro σ H Q ⟨ι, h, ρ, r, hR, hn, he, g⟩
  simp only [evE] at he
  obtain ⟨r1, e1, g1⟩ := bnd_good (Rel1 := RelE X.K) (Q1 := fun v H1 => ∃ c, v = .bl c ∧ Q (.bl (!c)) H1) he g fun d h1 e1 he1 ι1 H1 v x1 hR1 rv g1 => by
    split at he1
    · cases he1; cases rv; exact ⟨_, rfl, g1.here hR1 (.bl _)⟩
    · cases he1
  exact ⟨ι, h, ρ, r1, hR, hn, e1, g1⟩
theorem snd_andv {rest : List Expr} (ha : PE X a (tE X.K F W xa)) (hb : PE X (.BoolOp .And (b :: rest) pos) (tE X.K F W xb)) : PE X (.BoolOp .And (a :: b :: rest) pos) (tE X.K F W (.andv xa xb)) := by
  refine (pe_and ha hb).imp ?_
  rintro σ H Q ⟨ι, h, ρ, r, hR, hn, he, g⟩
  simp only [evE] at he
  obtain ⟨r1, e1, g1⟩ := bnd_good (Rel1 := RelE X.K) (Q1 := fun v H1 => ∃ c, v = .bl c ∧ if c = true then tE X.K F W xb σ H1 Q else Q (.bl false) H1) he g fun d h1 e1 he1 ι1 H1 v x1 hR1 rv g1 => by
    split at he1
    · cases rv
      exact ⟨true, rfl, by rw [if_pos rfl]; exact ⟨ι1, h1, ρ, r, hR1, hn.mo x1.toMo, he1, g1⟩⟩
    · cases rv
      cases he1
      exact ⟨false, rfl, by simpa using g1.here hR1 (.bl _)⟩
    · cases he1
  exact ⟨ι, h, ρ, r1, hR, hn, e1, g1⟩
theorem snd_orv {rest : List Expr} (ha : PE X a (tE X.K F W xa)) (hb : PE X (.BoolOp .Or (b :: rest) pos) (tE X.K F W xb)) : PE X (.BoolOp .Or (a :: b :: rest) pos) (tE X.K F W (.orv xa xb)) := by
  refine (pe_or ha hb).imp ?_
  rintro σ H Q ⟨ι, h, ρ, r, hR, hn, he, g⟩
  simp only [evE] at he
  obtain ⟨r1, e1, g1⟩ := bnd_good (Rel1 := RelE X.K) (Q1 := fun v H1 => ∃ c, v = .bl c ∧ if c = true then Q (.bl true) H1 else tE X.K F W xb σ H1 Q) he g fun d h1 e1 he1 ι1 H1 v x1 hR1 rv g1 => by
    split at he1
    · cases rv
      cases he1
      exact ⟨true, rfl, by rw [if_pos rfl]; exact g1.here hR1 (.bl _)⟩
    · cases rv
      exact ⟨false, rfl, by simpa using ⟨ι1, h1, ρ, r, hR1, hn.mo x1.toMo, he1, g1⟩⟩
    · cases he1
  exact ⟨ι, h, ρ, r1, hR, hn, e1, g1⟩
theorem snd_ite {t : Expr} {xt : Tx} (ht : PT X t (tT X.K F W xt)) (ha : PE X a (tE X.K F W xa)) (hb : PE X b (tE X.K F W xb)) : PE X (.IfExp t a b pos) (tE X.K F W (.ite xt xa xb)) := by
  refine (pe_ifExp ht ha hb).imp ?_
  rintro σ H Q ⟨ι, h, ρ, r, hR, hn, he, g⟩
  simp only [evE] at he
  obtain ⟨r1, e1, g1⟩ := bnd_good (Rel1 := RelB) (Q1 := fun c H1 => if c = true then tE X.K F W xa σ H1 Q else tE X.K F W xb σ H1 Q) he g fun d h1 e1 he1 ι1 H1 v x1 hR1 rv g1 => by
    cases rv
    cases d with
    | true => simp only [if_true]; exact ⟨ι1, h1, ρ, r, hR1, hn.mo x1.toMo, he1, g1⟩
    | false => simp only [Bool.false_eq_true, if_false]; exact ⟨ι1, h1, ρ, r, hR1, hn.mo x1.toMo, he1, g1⟩
  exact ⟨ι, h, ρ, r1, hR, hn, e1, g1⟩

/-! ### tests -/
theorem snd_tand {rest : List Expr} {ta tb : Tx} (ha : PT X a (tT X.K F W ta)) (hb : PW X (.BoolOp .And (b :: rest) pos) (tT X.K F W tb)) : PW X (.BoolOp .And (a :: b :: rest) pos) (tT X.K F W (.and ta tb)) := by
  refine (pw_and ha hb).imp ?_
  rintro σ H Q ⟨ι, h, ρ, r, hR, hn, he, g⟩
  simp only [evT] at he
  obtain ⟨r1, e1, g1⟩ := bnd_good (Rel1 := RelB) (Q1 := fun c H1 => if c = true then tT X.K F W tb σ H1 Q else Q false H1) he g fun d h1 e1 he1 ι1 H1 v x1 hR1 rv g1 => by
    cases rv
    cases d with
    | true => simp only [if_true]; exact ⟨ι1, h1, ρ, r, hR1, hn.mo x1.toMo, he1, g1⟩
    | false => simp only [Bool.false_eq_true, if_false]; cases he1; exact g1.here hR1 rfl
  exact ⟨ι, h, ρ, r1, hR, hn, e1, g1⟩
theorem snd_tor {rest : List Expr} {ta tb : Tx} (ha : PT X a (tT X.K F W ta)) (hb : PW X (.BoolOp .Or (b :: rest) pos) (tT X.K F W tb)) : PW X (.BoolOp .Or (a :: b :: rest) pos) (tT X.K F W (.or ta tb)) := by
  refine (pw_or ha hb).imp ?_
  rintro σ H Q ⟨ι, h, ρ, r, hR, hn, he, g⟩
  simp only [evT] at he
  obtain ⟨r1, e1, g1⟩ := bnd_good (Rel1 := RelB) (Q1 := fun c H1 => if c = true then Q true H1 else tT X.K F W tb σ H1 Q) he g fun d h1 e1 he1 ι1 H1 v x1 hR1 rv g1 => by
    cases rv
    cases d with
    | true => simp only [if_true]; cases he1; exact g1.here hR1 rfl
    | false => simp only [Bool.false_eq_true, if_false]; exact ⟨ι1, h1, ρ, r, hR1, hn.mo x1.toMo, he1, g1⟩
  exact ⟨ι, h, ρ, r1, hR, hn, e1, g1⟩
theorem snd_tnot {ta : Tx} (ha : PT X a (tT X.K F W ta)) : PT X (.UnaryOp .Not a pos) (tT X.K F W (.not ta)) := by
  refine (pt_not ha).imp ?_
  rintro σ H Q ⟨ι, h, ρ, r, hR, hn, he, g⟩
  simp only [evT] at he
  obtain ⟨r1, e1, g1⟩ := bnd_good (Rel1 := RelB) (Q1 := fun c H1 => Q (!c) H1) he g fun d h1 e1 he1 ι1 H1 v x1 hR1 rv g1 => by
    cases rv
    cases he1
    exact g1.here hR1 rfl
  exact ⟨ι, h, ρ, r1, hR, hn, e1, g1⟩
theorem tru_ev {K : PySem.W.Frag} {ι : List Addr} {H : Hp} {h : Hb} {d : D} {v : V} {c : Bool} (e : tru h d = some c) (hR : R K ι h H) (r : Rv K ι H d v) : TruV K v H c := by
  cases r with
  | non => cases e; exact rfl
  | bl b => cases e; exact rfl
  | int i => cases e; exact rfl
  | str s =>
    simp only [tru] at e
    split at e
    · rename_i hl; cases e; exact ⟨hl, rfl⟩
    · cases e
  | tup s q =>
    simp only [tru] at e
    cases e
    refine .inr (.inl ⟨_, SqT.of s, ?_⟩)
    cases q <;> rfl
  | kt s q => simp [tru] at e
  | kl s q => simp [tru] at e
  | ref ea =>
    simp only [tru] at e
    split at e
    · rename_i ds q
      cases e
      obtain ⟨vs, h1, r1⟩ := hR.obj _ _ _ q ea
      refine .inl ⟨vs, SqL.of h1, ?_⟩
      cases r1 <;> rfl
    · cases e
theorem snd_tex (ha : PE X a (tE X.K F W xa)) (he : ∀ whole, isTrue a X.env whole = (do let v ← whole; standAt a.pos; holding [v] (truthy v))) : PT X a (tT X.K F W (.ex xa)) := by
  refine (pt_truth ha he).imp ?_
  rintro σ H Q ⟨ι, h, ρ, r, hR, hn, he, g⟩
  simp only [evT] at he
  obtain ⟨r1, e1, g1⟩ := bnd_good (Rel1 := RelE X.K) (Q1 := fun v H1 => ∃ k, TruV X.K v H1 k ∧ Q k H1) he g fun d h1 e1 he1 ι1 H1 v x1 hR1 rv g1 => by
    split at he1
    · rename_i c q
      cases he1
      exact ⟨c, tru_ev q hR1 rv, g1.here hR1 rfl⟩
    · cases he1
  exact ⟨ι, h, ρ, r1, hR, hn, e1, g1⟩
end
end Ev

set_option Elab.async false
set_option linter.all false
set_option maxRecDepth 100000
set_option autoImplicit false
/-! Ev5: further rules of the layer: extend by a tuple, setdefault by tuple keys, max of three. -/
namespace Ev
open PySem PySem.Spec PyProof.Rows L2
open He (ga ma)

section
open PySem.AutoSeq1
set_option maxHeartbeats 4000000
theorem list_extend_tup (l : Addr) (items : Array Value) (n : Nat) (b : Addr) (items2 : Array Value) (n2 : Nat) (dd : Option Addr) (sl : Array (Option Value)) (hs0 : ¬(!items.isEmpty && Builtin.List.listTooLong (items.size + items2.size)) = true) (hs1 : items.size ≤ sizeLine) (hs2 : items.size + items2.size ≤ sizeLine + 1) :
    Meets (Builtin.«list.extend» ⟨[.ref l, .ref b], []⟩) (fun _ R s => s.heap.get? l = some { cls := .type "list", dict := none, data := .seq items n, slots := #[] } ∧ s.heap.get? b = some { cls := .type "tuple", dict := dd, data := .seq items2 n2, slots := sl } ∧ R (.ok (.ret Value.none)) { s with heap := s.heap.update l (Obj.mapSeq fun x => x ++ items2), toks := s.toks }) :=
  .of_wp fun prog w A R s h => by
    obtain ⟨hp, g, d, tk, os⟩ := s; obtain ⟨hl, hb, h⟩ := h; have f1 := idx_int; have f2 := AutoSeq1.sub_tuple_tuple; have f3 := AutoSeq1.sub_list_list; have f4 := AutoSeq1.sub_tuple_list; have f5 := AutoSeq1.sub_list_tuple;
    have hz' : (items ++ items2).size ≤ sizeLine + 1 := by rw [Array.size_append]; exact hs2
    wp_walk using (wpAny_updateSeq hl rfl (hz := hs1) (_hz' := hz')), wpAny_loadPart' hl, wpAny_loadPart' hb; exact ⟨_, rfl, h⟩
end
section
variable {X : Cx}
def rExtT (K : PySem.W.Frag) : V → List V → Hp → VK → Prop := fun x vs H Q => ∃ l b xs zs, x = .ref l ∧ vs = [.ref b] ∧ H l = some (.lst xs) ∧ SqT K H b zs ∧ xs.length + zs.length ≤ sizeLine ∧ Q .non (upd H l (.lst (xs ++ zs)))
theorem mt_extT : MtM X "list.extend" (rExtT X.K) := by
  intro pins s σ H x vs v us Q I rx rv h
  obtain ⟨l, b, xs, zs, rfl, rfl, hH, hB, hz, q⟩ := h
  cases rx
  obtain ⟨u, rfl, ru⟩ := rv.one
  cases ru
  obtain ⟨z, its, n, r, hl, e⟩ := I.lstM hH
  obtain ⟨its2, r2, ⟨⟨cls, dd, data, sl⟩, ho, hc, n2, hd⟩, hl2⟩ := I.tuple hB
  simp only at hc hd
  subst hc hd
  have lz : zs.length = its2.length := Vals.length r2
  have hsz : its.toArray.size + its2.toArray.size ≤ sizeLine := by rw [List.size_toArray, List.size_toArray]; omega
  have hlong : ¬ (!its.toArray.isEmpty && Builtin.List.listTooLong (its.toArray.size + its2.toArray.size)) = true := by
    rw [notLongL hsz, Bool.and_false]
    exact Bool.false_ne_true
  refine call_meets PySem.F.slot_list_extend ⟨_, e, rfl⟩ PySem.F.entry_list_extend (PySem.F.args_list_extend_2 _ _)
    (list_extend_tup l its.toArray n b its2.toArray n2 dd sl hlong (by rw [List.size_toArray]; omega) (by omega)) ⟨e, ho, ?_⟩
  refine ⟨.non, _, I.lset (its' := its ++ its2) hH e (by simp) (r.append r2) ?_, rfl, q⟩
  rw [List.length_append]
  omega
theorem call_max3 (hc : X.calm = true) : CallR X (.builtin "max") (fun xs H Q => ∃ i j k, xs = [.int i, .int j, .int k] ∧ Q (.int (if k > (if j > i then j else i) then k else (if j > i then j else i))) H) := by
  intro pins s σ H xs us Q I r h
  obtain ⟨i, j, k, rfl, q⟩ := h
  cases r with
  | cons r1 r => cases r with
    | cons r2 r => cases r with
      | cons r3 r =>
        cases r
        obtain ⟨t1, rfl⟩ := r1
        obtain ⟨t2, rfl⟩ := r2
        obtain ⟨t3, rfl⟩ := r3
        refine max_three_ints (I.ok.hd hc) fun h' tk kk => ⟨_, H, I.kept kk, ?_, q⟩
        by_cases hj : j > i
        · rw [if_pos hj, if_pos hj]
          by_cases hk : k > j
          · rw [if_pos hk, if_pos hk]; exact ⟨_, rfl⟩
          · rw [if_neg hk, if_neg hk]; exact ⟨_, rfl⟩
        · rw [if_neg hj, if_neg hj]
          by_cases hk : k > i
          · rw [if_pos hk, if_pos hk]; exact ⟨_, rfl⟩
          · rw [if_neg hk, if_neg hk]; exact ⟨_, rfl⟩
/-- d.setdefault(k, x), k a tuple -/
theorem d_setdT {pins : List (Addr × Obj)} {s : Shared} {σ : L2.St} {H : Hp} {a b : Addr} {kvs : List (List Key × V)} {k : List Key} {d : V} {r : Value} {A : Around} {E : Value → Shared → Prop} {Q : Value → Shared → Prop} (hu : A.units + 1 < cLine)
    (I : Inv X pins σ H s) (e : H a = some (.dT kvs)) (eb : H b = some (.tup (k.map kV))) (rd : RelV d r) (hl : kvs.length < sizeLine)
    (h1 : ∀ v, valV kvs k = some v → ∀ (w' : Value) (s' : Shared), Inv X pins σ H s' → RelV v w' → Q w' s') (h2 : valV kvs k = none → ∀ (w' : Value) (s' : Shared), Inv X pins σ (upd H a (.dT (putK kvs k d))) s' → RelV d w' → Q w' s') :
    wpAny (model X.prog X.w) A (call (.builtin "dict.setdefault") [.ref a, .ref b, r]) Q E s := by
  obtain ⟨z, hd, xs, rel, dd⟩ := dt_of I.hok e
  have hz : xs.length ≤ sizeLine := by rw [← Paired.length rel]; exact z
  refine call_setdefault_heap (hsz := hz) (tupleKind_room_in1 hu) (key_of I.hok eb) hd dd (fun p hp => ?_) fun hn h' dd' hs => ?_
  · have q := rel.val k
    rw [hp] at q
    cases q0 : valV kvs k with
    | none =>
      rw [q0] at q
      exact (show False from q).elim
    | some v0 =>
      rw [q0] at q
      exact h1 v0 q0 _ _ (I.tok _) q
  · have q := rel.val k
    rw [hn] at q
    cases q0 : valV kvs k with
    | some v0 =>
      rw [q0] at q
      exact (show False from q).elim
    | none =>
      have hl2 : (putK kvs k d).length ≤ sizeLine := by
        have := length_putK kvs k d
        omega
      obtain ⟨q, es, ep, hq, h2', h3, h4, _, h5⟩ := dd'
      refine h2 q0 _ _ (d_write I (by rw [e]; exact True.intro) hs ⟨q, hq⟩ ⟨hl2, hd, _, (rel.put k eb rd).keeps fun c ys ec => ?_, q, es, ep, hq, h2', h3, h4, h5⟩) rd
      rw [upd_ne (ne_of ec e (fun z => nomatch z))]
      exact ec
def tDSetdT (td ty tx : TE) : TE := fun σ H Q => td σ H fun x H1 => ∃ a, x = .ref a ∧ IsD H1 a ∧ ty σ H1 fun y H2 => tx σ H2 fun z H3 => ∃ (kvs : List (List Key × V)) (k : List Key) (b : Addr), H3 a = some (.dT kvs) ∧ y = .ref b ∧ H3 b = some (.tup (k.map kV)) ∧ kvs.length < sizeLine ∧
  (∀ v, valV kvs k = some v → Q v H3) ∧ (valV kvs k = none → Q z (upd H3 a (.dT (putK kvs k z))))
theorem pe_dsetdT {o e f : Expr} {td ty tx : TE} {apos cpos : Pos} (hu : X.A.units + 1 < cLine) (ho : PE X o td) (he : PE X e ty) (hf : PE X f tx) (m : M2 X o "setdefault" apos e f cpos) : PE X (.Call (.Attribute o "setdefault" apos) [e, f] [] cpos) (tDSetdT td ty tx) := by
  refine ⟨fun pins s σ H Q I h => ?_⟩
  refine wpAny_Call_method m.base m.few m.line PySem.F.plainAttrs_dict PySem.F.slot_dict_setdefault PySem.F.type_dict_setdefault (thn (ho.run pins s σ H _ I h) fun u s1 ⟨x, H1, I1, rx, a, ex, d, q1⟩ => ?_)
  subst ex
  obtain rfl : u = Value.ref a := rx
  obtain ⟨t1, t2, _⟩ := isD_at I1 d
  refine ⟨t1, t2, ?_⟩
  rw [m.trees]
  refine Calls.callWith_builtin rfl (Calls.evalArgs_plain (Calls.spliced_cons (thn (he.run pins s1 σ H1 _ I1 q1) fun iv s2 ⟨y, H2, I2, ry, q2⟩ =>
    Calls.spliced_cons (thn (hf.run pins s2 σ H2 _ I2 q2) fun fv s3 ⟨z, H3, I3, rz, kvs, k, b, ea, ey, eb, hl, q3, q4⟩ => Calls.spliced_nil ?_))))
  subst ey
  cases (show iv = Value.ref b from ry)
  exact d_setdT hu I3 ea eb rz hl (fun v hv w' s4 I4 rw' => ⟨v, _, I4, rw', q3 v hv⟩) fun hn w' s4 I4 rw' => ⟨z, _, I4, rw', q4 hn⟩

/-! ### the values of a dict of tuple keys -/
theorem frzTV {pins : List (Addr × Obj)} {s : Shared} {σ : L2.St} {H : Hp} {d : Addr} {o : Obj} {kvs : List (List Key × V)} (I : Inv X pins σ H s) (h : Rd H d (.dT kvs)) :
    (d == sysModules) = false ∧ ∃ (ob : Obj) (es : Array DictEntry) (ep : Nat), s.heap.get? d = some ob ∧ ob.ExactDict ∧ ob.data = .dict es ep ∧ es.size = kvs.length ∧
      ∀ (i : Nat) (k : List Key) (v : V), kvs[i]? = some (k, v) → ∃ en : DictEntry, es[i]? = some en ∧ RelV v en.val := by
  obtain ⟨z, hs, xs, pr, o', es, ep, ho, hx, hdt, he, _⟩ := (show ObjOk X.prog X.w H s.heap d (.dT kvs) from h.ok I.hok)
  refine ⟨hs, o', es, ep, ho, hx, hdt, ?_, fun i k v e => ?_⟩
  · have l1 : es.size = xs.length := size_of_entries he
    have l2 : kvs.length = xs.length := Paired.length pr
    omega
  · obtain ⟨b, hb, e1, e2, e3⟩ := paired_get pr e
    have q := entry_at he i
    rw [hb] at q
    exact ⟨_, q, e3⟩
def ItdT (d : Addr) (o : Obj) (kvs : List (List Key × V)) : L2.It :=
  ⟨fun i H => H d = some (.frz o (.dT kvs)) ∧ i < kvs.length, fun i H x H' => H' = H ∧ ∃ k, kvs[i]? = some (k, x), fun i H => H d = some (.frz o (.dT kvs)) ∧ kvs.length ≤ i⟩
theorem turn_valsT {P : Program} {w : World} {K : PySem.W.Frag} {tg : Expr} {d : Addr} {o : Obj} {es : Array DictEntry} {ep : Nat} {kvs : List (List Key × V)} (it : Addr) (hod : o.data = .dict es ep) : Turn P w K tg (ItdT d o kvs) [it] it (fun i h => h.IsValIter it d i kvs.length ep) where
  mem := by simp
  obj := fun i h st b hb => by
    have e : b = it := by simpa using hb
    subst e
    obtain ⟨oi, e, c, dd⟩ := st
    exact ⟨oi, e, fun v z => by rw [dd] at z; cases z⟩
  keep := fun i h h' st k => st.at fun oi e => k it (by simp) oi e
  item := by
    intro X hP hw hK hc i pins s σ H E I hf st hg
    subst hP hw hK
    obtain ⟨hd, hi⟩ := hg
    obtain ⟨f0, f1, f2, f3, f4, f5⟩ := hf it (by simp)
    obtain ⟨hs, ob, es', ep', hgd, hx, hdt, hsz, ent⟩ := frzTV (o := o) I (.inr ⟨o, hd⟩)
    obtain ⟨hgd', _⟩ := (show ObjOk X.prog X.w H s.heap d (.frz o (.dT kvs)) from I.hok d _ hd)
    rw [hgd] at hgd'
    have eo : ob = o := Option.some.inj hgd'
    rw [eo] at hx hdt hgd
    obtain ⟨rfl, rfl⟩ := dict_ep hod hdt
    obtain ⟨⟨k, v⟩, hkv⟩ : ∃ p, kvs[i]? = some p := ⟨kvs[i], List.getElem?_eq_getElem hi⟩
    obtain ⟨en, hen, rv⟩ := ent i k v hkv
    have hi' : i < es'.size := by rw [hsz]; exact hi
    have een : es'[i] = en := by rw [Array.getElem?_eq_getElem hi'] at hen; exact Option.some.inj hen
    rw [← hsz] at st
    refine wpAny_pyNext_values_item_raw st ⟨o, hgd, hx, hdt⟩ hi' fun h' st' sb => ?_
    have I1 : Inv X pins σ H { s with heap := h' } := I.turned (t' := s.toks) (fun b ob hb e => (sb.2 b hb).trans e) f0 f1 f3 f4 f5
    obtain ⟨oi, e, c, dd⟩ := id st'
    refine ⟨es'[i].val, rfl, go_of (s := { s with heap := h' }) e c dd (by decide) ⟨v, H, I1, by rw [een]; exact rv, ⟨rfl, k, hkv⟩, ?_, fun b hb => (hf b hb).1⟩⟩
    show h'.IsValIter it d (i + 1) kvs.length _
    rw [← hsz]
    exact st'
  done := by
    intro X hP hw hK hc i pins s σ H E I hf st hg
    subst hP hw hK
    obtain ⟨hd, hi⟩ := hg
    obtain ⟨f0, f1, f2, f3, f4, f5⟩ := hf it (by simp)
    obtain ⟨hs, ob, es', ep', hgd, hx, hdt, hsz, ent⟩ := frzTV (o := o) I (.inr ⟨o, hd⟩)
    obtain ⟨hgd', _⟩ := (show ObjOk X.prog X.w H s.heap d (.frz o (.dT kvs)) from I.hok d _ hd)
    rw [hgd] at hgd'
    have eo : ob = o := Option.some.inj hgd'
    rw [eo] at hx hdt hgd
    obtain ⟨rfl, rfl⟩ := dict_ep hod hdt
    rw [← hsz] at st
    exact wpAny_pyNext_values_end_raw (I.ok.hd hc) st ⟨o, hgd, hx, hdt⟩ (by rw [hsz]; exact hi) fun h' eb => ⟨rfl, I.turned (t' := s.toks) (fun b ob hb e => eb b ob hb e) f0 f1 f3 f4 f5⟩
  self := fun A i s Q E st h => wpAny_pyIter_valiter st h
def iValsT (td : TE) : TI := fun σ H R => td σ H fun x H1 => ∃ d o kvs, x = .ref d ∧ H1 d = some (.frz o (.dT kvs)) ∧ R (ItdT d o kvs) H1
theorem pi_valuesT {tg e : Expr} {td : TE} {apos cpos : Pos} (he : PE X e td) (hbase : attributeBase e "values" X.env (eval e X.env) = eval e X.env) (hline : (apos.endLine == cpos.line) = true) : PI X tg (.Call (.Attribute e "values" apos) [] [] cpos) (iValsT td) := by
  refine ⟨fun pins s σ H R I h => ?_⟩
  refine wpAny_Call_method (T := "dict") (id := "dict.values") hbase rfl hline PySem.F.plainAttrs_dict PySem.F.slot_dict_values PySem.F.type_dict_values (thn (he.run pins s σ H _ I h) fun u s1 ⟨x, H1, I1, rx, d, o, kvs, ex, hd, q⟩ => ?_)
  subst ex
  obtain rfl : u = Value.ref d := rx
  obtain ⟨hs, ob, es, ep, hgd, hx, hdt, hsz, ent⟩ := frzTV (o := o) I1 (.inr ⟨o, hd⟩)
  obtain ⟨hgd', _⟩ := (show ObjOk X.prog X.w H1 s1.heap d (.frz o (.dT kvs)) from I1.hok d _ hd)
  rw [hgd] at hgd'
  have eo : ob = o := Option.some.inj hgd'
  rw [eo] at hx hdt hgd
  have raw : s1.heap.DictRaw d es ep := ⟨o, hgd, hx, hdt⟩
  refine ⟨raw.typeIs, fun b z => ?_, ?_⟩
  · cases z
    exact ⟨o, hgd, hx.2.1⟩
  have I2 : Inv X pins σ H1 { s1 with heap := s1.heap.push { cls := .type "dict_values", data := .fields #[.ref d] } } := I1.kept (t' := s1.toks) fun b ob q => Heap.get?_push_of_some _ q
  have fin : wpAny (model X.prog X.w) X.A (pyIter (.ref s1.heap.objs.size)) (PIE X pins σ tg R) X.xe { s1 with heap := s1.heap.push { cls := .type "dict_values", data := .fields #[.ref d] } } := by
    refine wpAny_pyIter_values_raw (d := d) ⟨_, Heap.get?_push_size _ rfl, rfl, rfl⟩ (raw.push _) (pi_one (tk := s1.toks) I2 _ (turn_valsT _ hdt) ⟨_, Heap.get?_push_size _ rfl, rfl, ?_⟩ q)
    rw [← hsz] <;> rfl
  show wpAny _ _ (callWith cpos (.builtin "dict.values") [.ref d] [] []) _ X.xe s1
  exact method_meetsIn PySem.F.slot_dict_values PySem.F.entry_dict_values rfl (PySem.evalArgs_none ⟨rfl, raw.typeIs, PySem.F.args_dict_values_1 _, _, meets_dict_values_raw d hs, ⟨⟨es, ep, raw⟩, fin⟩⟩)
/-- list(d.values()) -/
def valsO (p d : Addr) : HO := .ext fun h => h.IsValuesView p d
theorem valsO_ok {P : Program} {w : World} {H : Hp} {h : Heap} {p d : Addr} (e : h.get? p = some { cls := .type "dict_values", data := .fields #[.ref d] }) : ObjOk P w H h p (valsO p d) :=
  ⟨⟨_, e, rfl, rfl⟩, ⟨_, e⟩, fun h1 h2 x k => let ⟨o, ho, r⟩ := x; ⟨o, k o ho, r⟩⟩
def rValsT : V → List V → Hp → VK → Prop := fun x xs H Q => ∃ (a : Addr) (kvs : List (List L2.Key × V)), x = .ref a ∧ xs = [] ∧ H a = some (.dT kvs) ∧ ∀ p, H p = none → Q (.ref p) (upd H p (valsO p a))
theorem mt_valsT : MtR X "dict.values" rValsT := by
  intro pins s σ H x xs v us Q I rx rxs h
  obtain ⟨a, kvs, rfl, rfl, ha, q⟩ := h
  cases rx
  cases rxs
  obtain ⟨z, hd, xs', rel, o, es, ep, ho, hx, hdat, _⟩ := dt_of I.hok ha
  have raw : s.heap.DictRaw a es ep := ⟨o, ho, hx, hdat⟩
  have hf : H s.heap.objs.size = none := I.hok.fresh (Nat.le_refl _)
  refine call_meetsIn PySem.F.slot_dict_values raw.typeIs PySem.F.entry_dict_values (PySem.F.args_dict_values_1 _) (meets_dict_values_raw a hd) ⟨⟨es, ep, raw⟩, ?_⟩
  exact ⟨.ref s.heap.objs.size, upd H s.heap.objs.size (valsO s.heap.objs.size a), I.laid (t' := s.toks) (fun b u e => Heap.get?_push_of_some _ e) (Nat.le_refl _) (valsO_ok (Heap.get?_push_size _ rfl)), rfl, q _ hf⟩
theorem call_list_valsT (hc : X.calm = true) : CallR X (.type "list") (fun xs H Q => ∃ p d kvs, xs = [V.ref p] ∧ H p = some (valsO p d) ∧ H d = some (.dT kvs) ∧ ∀ q, H q = none → Q (.ref q) (upd H q (.lst (kvs.map (·.2))))) := by
  intro pins s σ H xs us Q I r h
  obtain ⟨p, d, kvs, rfl, hp, hd, q⟩ := h
  obtain ⟨u, rfl, rx⟩ := r.one
  cases rx
  obtain ⟨hs, ob, es, ep, hgd, hx, hdt, hsz, ent⟩ := frzTV (o := default) I (.inl hd)
  obtain ⟨hv, _⟩ := (show ObjOk X.prog X.w H s.heap p (valsO p d) from I.hok p _ hp)
  have hz : kvs.length ≤ sizeLine := (dt_of I.hok hd).1
  refine PySem.W.kdl_call (KdlSrc.rawValues (r := p) (d := d) (es := es) (ep := ep)) (I.ok.hd hc) ⟨hv, ob, hgd, hx, hdt⟩ (by rw [hsz]; exact hz) fun h' tk acc' c' kp e it => ?_
  have rv : Vals (kvs.map (·.2)) acc'.toList := by
    have hl : acc'.toList.length = kvs.length := by rw [Array.length_toList, it.1]; exact hsz
    have gen : ∀ (l : List (List Key × V)) (m : List Value), l.length = m.length → (∀ (i : Nat) (k : List Key) (v : V) (u : Value), l[i]? = some (k, v) → m[i]? = some u → RelV v u) → Vals (l.map (·.2)) m := by
      intro l
      induction l with
      | nil => intro m hm _; cases m with
        | nil => exact .nil
        | cons x m => simp at hm
      | cons p l ih => intro m hm hr; cases m with
        | nil => simp at hm
        | cons x m => exact .cons (hr 0 p.1 p.2 x rfl rfl) (ih m (by simpa using hm) fun i k v u h1 h2 => hr (i + 1) k v u (by simpa using h1) (by simpa using h2))
    refine gen kvs _ hl.symm fun i k v u h1 h2 => ?_
    obtain ⟨en, hen, r⟩ := ent i k v h1
    obtain ⟨hi, hu⟩ := it.2 i u (by rw [← Array.getElem?_toList]; exact h2)
    rw [Array.getElem?_eq_getElem hi] at hen
    rw [hu, Option.some.inj hen]
    exact r
  refine ⟨.ref s.heap.objs.size, _, I.laid (t' := tk) (o := .lst (kvs.map (·.2))) kp (Nat.le_refl _) ?_, rfl, q _ (I.hok.fresh (Nat.le_refl _))⟩
  exact ⟨by rw [List.length_map]; exact hz, acc'.toList, c', rv, by rw [Array.toArray_toList]; exact e⟩
end
end Ev

set_option Elab.async false
set_option linter.all false
set_option maxRecDepth 100000
set_option autoImplicit false
/-! Ev6: attributes, subscripts, built-in functions and methods, displays of dicts. -/
namespace Ev
open PySem PySem.Spec PyProof.Rows L2
open He (ga ma)

/-- not a call without arguments (super()) -/
def noSup : Expr → Bool
  | .Call (.Name _ _) [] [] _ => false
  | _ => true
theorem attr_base {o : Expr} {f : Str} {env : Env} {w : Sem Value} (h : noSup o = true) : attributeBase o f env w = w := by
  unfold attributeBase
  split
  · simp [noSup] at h
  · rfl

section
variable {K : PySem.W.Frag} {ι : List Addr} {H : Hp} {h : Hb}
theorem Rkv.look {fs : List (Str × D)} {ws : List (Str × V)} (r : Rkv K ι H fs ws) (f : Str) : match fs.lookup f, ws.lookup f with
    | some d, some v => Rv K ι H d v
    | none, none => True
    | _, _ => False := by
  induction r with
  | nil => simp
  | @cons p q ps qs a t ih =>
    obtain ⟨p1, p2⟩ := p
    obtain ⟨q1, q2⟩ := q
    obtain ⟨e, rv⟩ := a
    simp only at e rv
    subst e
    by_cases c : f = p1
    · subst c
      simp [List.lookup]
      exact rv
    · have c' : (f == p1) = false := by simpa using c
      simp only [List.lookup, c']
      exact ih
theorem Rkv.look_some {fs : List (Str × D)} {ws : List (Str × V)} (r : Rkv K ι H fs ws) {f : Str} {d : D} (e : fs.lookup f = some d) : ∃ v, ws.lookup f = some v ∧ Rv K ι H d v := by
  have z := r.look f
  rw [e] at z
  cases q : ws.lookup f with
  | none => rw [q] at z; exact z.elim
  | some v => rw [q] at z; exact ⟨v, rfl, z⟩
theorem Rkv.look_none {fs : List (Str × D)} {ws : List (Str × V)} (r : Rkv K ι H fs ws) {f : Str} (e : fs.lookup f = none) : ws.lookup f = none := by
  have z := r.look f
  rw [e] at z
  cases q : ws.lookup f with
  | none => rfl
  | some v => rw [q] at z; exact z.elim
theorem mem_of_lookup {fs : List (Str × D)} {f : Str} {d : D} (e : fs.lookup f = some d) : ∃ p ∈ fs, p.1 = f := by
  induction fs with
  | nil => simp at e
  | cons p fs ih =>
    obtain ⟨p1, p2⟩ := p
    by_cases c : f = p1
    · exact ⟨(p1, p2), by simp, c.symm⟩
    · have c' : (f == p1) = false := by simpa using c
      simp only [List.lookup, c'] at e
      obtain ⟨q, h1, h2⟩ := ih e
      exact ⟨q, by simp [h1], h2⟩
theorem Rkv.val {κ : Type} [DecidableEq κ] {ps : List (κ × D)} {qs : List (κ × V)} (r : Rkv K ι H ps qs) (k : κ) : match (ps.find? fun kv => decide (kv.1 = k)).map (·.2), valV qs k with
    | some d, some v => Rv K ι H d v
    | none, none => True
    | _, _ => False := by
  induction r with
  | nil => simp [valV]
  | @cons p q ps qs a t ih =>
    obtain ⟨p1, p2⟩ := p
    obtain ⟨q1, q2⟩ := q
    obtain ⟨e, rv⟩ := a
    simp only at e rv
    subst e
    by_cases c : p1 = k
    · subst c
      simp [valV]
      exact rv
    · rw [valV_neg (by simpa using c)]
      simp only [List.find?_cons]
      simp [c]
      exact ih
theorem Rkv.val_some {κ : Type} [DecidableEq κ] {ps : List (κ × D)} {qs : List (κ × V)} (r : Rkv K ι H ps qs) {k : κ} {d : D} (e : (ps.find? fun kv => decide (kv.1 = k)).map (·.2) = some d) : ∃ v, valV qs k = some v ∧ Rv K ι H d v := by
  have z := r.val k
  rw [e] at z
  cases q : valV qs k with
  | none => rw [q] at z; exact z.elim
  | some v => rw [q] at z; exact ⟨v, rfl, z⟩
theorem Rkv.val_none {κ : Type} [DecidableEq κ] {ps : List (κ × D)} {qs : List (κ × V)} (r : Rkv K ι H ps qs) {k : κ} (e : (ps.find? fun kv => decide (kv.1 = k)).map (·.2) = none) : valV qs k = none := by
  have z := r.val k
  rw [e] at z
  cases q : valV qs k with
  | none => rfl
  | some v => rw [q] at z; exact z.elim
theorem Rkv.put_new {κ : Type} [DecidableEq κ] {ps : List (κ × D)} {qs : List (κ × V)} (r : Rkv K ι H ps qs) {k : κ} {d : D} {v : V} (e : valV qs k = none) (q : Rv K ι H d v) : Rkv K ι H (ps ++ [(k, d)]) (putK qs k v) := by
  have z : (qs.any fun kv => decide (kv.1 = k)) = false := by rw [valV_any, e]; rfl
  have z' : ¬ (qs.any fun kv => decide (kv.1 = k)) = true := by rw [z]; exact Bool.false_ne_true
  unfold putK
  rw [if_neg z']
  clear z z' e
  induction r with
  | nil => exact .cons ⟨rfl, q⟩ .nil
  | cons a t ih => exact .cons a ih
theorem ixN_of {ds : List D} {vs : List V} (r : Rvs K ι H ds vs) {i : Int} {d : D} (e : atI ds i = some d) : ∃ v, atI vs i = some v ∧ Rv K ι H d v := by
  unfold atI at e ⊢
  rw [← r.length]
  cases q : ixN ds.length i with
  | none => rw [q] at e; simp at e
  | some j =>
    rw [q] at e
    simp only [Option.bind_some] at e ⊢
    exact r.get e
end

section
variable {X : Cx} {F : Fn} {W : WX} {pos : Pos} {a b c : Expr} {xa xb xc : Ex}
theorem snd_fld {f : Str} (ha : PE X a (tE X.K F W xa)) (hs : noSup a = true) : PE X (.Attribute a f pos) (tE X.K F W (.fld xa f)) := by
  refine (pe_fld ha (attr_base hs)).imp ?_
  rintro σ H Q ⟨ι, h, ρ, r, hR, hn, he, g⟩
  simp only [evE] at he
  obtain ⟨r1, e1, g1⟩ := bnd_good (Rel1 := RelE X.K) (Q1 := fun x H1 => ∃ a C dx fs v, x = .ref a ∧ H1 a = some (.ins C dx fs) ∧ Cls X.K C ∧ NoAttr X.K C f ∧ fs.lookup f = some v ∧ Q v H1) he g fun d h1 e1 he1 ι1 H1 v x1 hR1 rv g1 => by
    split at he1
    · obtain ⟨p, rfl, ea⟩ := rv.ref_inv
      split at he1
      · rename_i n cn fs q
        split at he1
        · rename_i d' q'
          cases he1
          obtain ⟨dx, ws, hw, rf, hc, hno⟩ := hR1.obj _ _ _ q ea
          obtain ⟨v, hv, rv'⟩ := rf.look_some q'
          obtain ⟨p', hp1, hp2⟩ := mem_of_lookup q'
          have nof := hno p' hp1
          rw [hp2] at nof
          exact ⟨p, _, dx, ws, v, rfl, hw, hc, nof, hv, g1.here hR1 rv'⟩
        · cases he1
      · cases he1
    · cases he1
  exact ⟨ι, h, ρ, r1, hR, hn, e1, g1⟩

/-! ### subscripts -/
/-- no slice with its parts -/
def noSlc : Expr → Bool
  | .Slice _ _ _ _ => false
  | _ => true
theorem plainIx {b : Expr} (h : noSlc b = true) : PlainIx b := by
  intro o i
  unfold subscripted
  split
  · simp [noSlc] at h
  · rename_i e; cases e
  · rfl
def ixK (h : Hb) (x : D) : Bool := match x with
  | .ref n => match h[n]? with
    | some (.dk _) => true
    | _ => false
  | _ => false
theorem snd_idx (hu : X.A.units + 1 < cLine) (ha : PE X a (tE X.K F W xa)) (hb : PE X b (tE X.K F W xb)) (hs : noSlc b = true) : PE X (.Subscript a b pos) (tE X.K F W (.idx xa xb)) := by
  refine PE.pick ?_
  rintro σ H Q ⟨ι, h, ρ, r, hR, hn, he, g⟩
  simp only [evE] at he
  -- a dict, or a sequence: told by the values ahead
  have seq : (∀ x h1 y h2, evE F xa ρ h = some (.ok x h1) → evE F xb ρ h1 = some (.ok y h2) → ixK h2 x = false) → tOp (rIx X.K) (tE X.K F W xa) (tE X.K F W xb) σ H Q := fun nd => by
    obtain ⟨r1, e1, g1⟩ := bnd_good (Rel1 := RelE X.K) (Q1 := fun v H1 => tE X.K F W xb σ H1 fun u H2 => rIx X.K v u H2 Q) he g fun x h1 e1 he1 ι1 H1 v x1 hR1 rv g1 => by
      obtain ⟨r2, e2, g2⟩ := bnd_good (Rel1 := RelE X.K) (Q1 := fun u H2 => rIx X.K v u H2 Q) he1 g1 fun y h2 e2 he2 ι2 H2 u x2 hR2 ru g2 => by
        have nk := nd x h1 y h2 e1 e2
        have rv2 := rv.mo x2.toMo
        split at he2
        · rename_i d q
          cases he2
          unfold idxD at q
          split at q
          · rename_i ds i
            obtain ⟨p, vs, rfl, s, rr⟩ := rv2.tup_inv
            cases ru
            obtain ⟨v', hv', rv'⟩ := ixN_of rr q
            exact .inr (.inl ⟨p, vs, i, v', rfl, rfl, s, hv', g2.here hR2 rv'⟩)
          · rename_i z i
            split at q
            · rename_i hl
              simp only [Option.map_eq_some_iff] at q
              obtain ⟨c, hc, rfl⟩ := q
              cases rv2; cases ru
              exact .inr (.inr ⟨z, i, c, rfl, rfl, hl, hc, g2.here hR2 (.str _)⟩)
            · cases q
          · rename_i n i
            obtain ⟨p, rfl, ea⟩ := rv2.ref_inv
            cases ru
            split at q
            · rename_i ds q'
              obtain ⟨vs, h1', rr⟩ := hR2.obj _ _ _ q' ea
              obtain ⟨v', hv', rv'⟩ := ixN_of rr q
              exact .inl ⟨p, vs, i, v', rfl, rfl, SqL.of h1', hv', g2.here hR2 rv'⟩
            · cases q
          · rename_i n s
            split at q
            · rename_i kvs q'
              simp [ixK, q'] at nk
            · cases q
          · cases q
        · cases he2
      exact ⟨ι1, h1, ρ, r2, hR1, hn.mo x1.toMo, e2, g2⟩
    exact ⟨ι, h, ρ, r1, hR, hn, e1, g1⟩
  by_cases c : ∃ x h1 y h2, evE F xa ρ h = some (.ok x h1) ∧ evE F xb ρ h1 = some (.ok y h2) ∧ ixK h2 x = true
  · obtain ⟨x, h1, y, h2, ea, eb, hk⟩ := c
    refine ⟨_, pe_dget hu ha hb (plainIx hs), ?_⟩
    obtain ⟨r1, e1, g1⟩ := bnd_good (Rel1 := RelE X.K) (Q1 := fun v H1 => tE X.K F W xb σ H1 fun u H2 => ∃ p w, v = .ref p ∧ DGet H2 p u (some w) ∧ Q w H2) he g fun x h1 e1 he1 ι1 H1 v x1 hR1 rv g1 => by
      obtain ⟨r2, e2, g2⟩ := bnd_good (Rel1 := RelE X.K) (Q1 := fun u H2 => ∃ p w, v = .ref p ∧ DGet H2 p u (some w) ∧ Q w H2) he1 g1 fun y h2 e2 he2 ι2 H2 u x2 hR2 ru g2 => by
        rw [e1] at ea; cases ea
        rw [e2] at eb; cases eb
        have rv2 := rv.mo x2.toMo
        unfold ixK at hk
        split at hk
        · rename_i n
          split at hk
          · rename_i kvs q'
            obtain ⟨p, rfl, ea⟩ := rv2.ref_inv
            obtain ⟨ws, h1', rr⟩ := hR2.obj _ _ _ q' ea
            split at he2
            · rename_i d q
              cases he2
              cases y with
              | str s =>
                simp only [idxD, q'] at q
                cases ru
                obtain ⟨w, hw, rw'⟩ := rr.val_some (k := Sum.inr s) q
                exact ⟨p, w, rfl, .inl ⟨ws, Sum.inr s, .inl h1', rfl, hw.symm⟩, g2.here hR2 rw'⟩
              | int i => simp [idxD, q'] at q
              | non => simp [idxD] at q
              | bl b => simp [idxD] at q
              | tup ds => simp [idxD] at q
              | ref m => simp [idxD] at q
              | kt m => simp [idxD] at q
              | kl m => simp [idxD] at q
            · cases he2
          · cases hk
        · cases hk
      exact ⟨ι1, h1, ρ, r2, hR1, hn.mo x1.toMo, e2, g2⟩
    exact ⟨ι, h, ρ, r1, hR, hn, e1, g1⟩
  · refine ⟨_, pe_ix ix_seq ha hb (plainIx hs), seq fun x h1 y h2 e1 e2 => ?_⟩
    cases q : ixK h2 x with
    | false => rfl
    | true => exact absurd ⟨x, h1, y, h2, e1, e2, q⟩ c
end
end Ev

set_option Elab.async false
set_option linter.all false
set_option maxRecDepth 100000
set_option autoImplicit false
/-! Ev7: slices, built-in functions and methods, displays of dicts. -/
namespace Ev
open PySem PySem.Spec PyProof.Rows L2
open He (ga ma)

section
variable {X : Cx} {F : Fn} {W : WX} {pos : Pos} {a b c : Expr} {xa xb xc : Ex}
/-! ### slices -/
theorem snd_ono : PO X none (tOx X.K F W .none) := by
  refine po_none.imp ?_
  rintro σ H Q ⟨ι, h, ρ, r, hR, hn, he, g⟩
  simp only [evO] at he; cases he
  exact g.here hR rfl
theorem snd_osome (ha : PE X a (tE X.K F W xa)) : PO X (some a) (tOx X.K F W (.some xa)) := by
  refine (po_some ha).imp ?_
  rintro σ H Q ⟨ι, h, ρ, r, hR, hn, he, g⟩
  simp only [evO] at he
  obtain ⟨r1, e1, g1⟩ := bnd_good (Rel1 := RelE X.K) (Q1 := fun v H1 => ∃ i, v = .int i ∧ Q (some i) H1) he g fun d h1 e1 he1 ι1 H1 v x1 hR1 rv g1 => by
    split at he1
    · cases he1; cases rv; exact ⟨_, rfl, g1.here hR1 rfl⟩
    · cases he1
  exact ⟨ι, h, ρ, r1, hR, hn, e1, g1⟩
def rSlc (K : PySem.W.Frag) (x : D) : V → Option Int → Option Int → Hp → VK → Prop := match x with
  | .tup _ => rSlT K
  | .ref _ => rSlL K
  | _ => fun _ _ _ _ _ => False
theorem slOk (x : D) : SlR X (rSlc X.K x) := by
  unfold rSlc
  split
  · exact sl_tup
  · exact sl_list
  · intro _ _ _ _ _ _ _ _ _ _ _ _ _ _ _ _ _ q; exact q.elim
theorem cut_rvs {K : PySem.W.Frag} {ι : List Addr} {H : Hp} {ds : List D} {vs : List V} (r : Rvs K ι H ds vs) (lo hi : Option Int) : Rvs K ι H (cutD ds lo hi) (cutV vs lo hi) := by
  unfold cutD cutV
  rw [r.length]
  exact (r.drop _).take _
/-- the value of the first part, if it comes -/
def valOf (r : RO D) : D := match r with
  | some (.ok x _) => x
  | _ => .non
theorem snd_slc {lo hi : Option Expr} {xl xh : OEx} {p2 : Pos} (ha : PE X a (tE X.K F W xa)) (hl : PO X lo (tOx X.K F W xl)) (hh : PO X hi (tOx X.K F W xh)) :
    PE X (.Subscript a (.Slice lo hi none p2) pos) (tE X.K F W (.slc xa xl xh)) := by
  refine PE.pick ?_
  rintro σ H Q ⟨ι, h, ρ, r, hR, hn, he, g⟩
  simp only [evE] at he
  refine ⟨tSl (rSlc X.K (valOf (evE F xa ρ h))) _ _ _, pe_slice (slOk _) ha hl hh, ?_⟩
  obtain ⟨r1, e1, g1⟩ := bnd_good (Rel1 := RelE X.K) (Q1 := fun v H1 => tOx X.K F W xl σ H1 fun l H2 => tOx X.K F W xh σ H2 fun u H3 => rSlc X.K (valOf (evE F xa ρ h)) v l u H3 Q) he g fun x h1 e1 he1 ι1 H1 v x1 hR1 rv g1 => by
    have ex : valOf (evE F xa ρ h) = x := by rw [e1]; rfl
    obtain ⟨r2, e2, g2⟩ := bnd_good (Rel1 := RelO') (Q1 := fun l H2 => tOx X.K F W xh σ H2 fun u H3 => rSlc X.K (valOf (evE F xa ρ h)) v l u H3 Q) he1 g1 fun l h2 e2 he2 ι2 H2 l' x2 hR2 rl g2 => by
      cases rl
      obtain ⟨r3, e3, g3⟩ := bnd_good (Rel1 := RelO') (Q1 := fun u H3 => rSlc X.K (valOf (evE F xa ρ h)) v l u H3 Q) he2 g2 fun u h3 e3 he3 ι3 H3 u' x3 hR3 ru g3 => by
        cases ru
        rw [ex]
        have rv3 := (rv.mo x2.toMo).mo x3.toMo
        unfold slcD at he3
        split at he3
        · rename_i ds
          split at he3
          · simp [nvRes] at he3
          · rename_i hne
            obtain ⟨p, vs, rfl, s, rr⟩ := rv3.tup_inv
            simp only [nvRes] at he3
            cases he3
            refine ⟨p, vs, rfl, s, fun z => hne ?_, fun q hq => ?_⟩
            · unfold cutD
              rw [rr.length, z.1, z.2, List.drop_zero, Nat.sub_zero, ← rr.length, List.take_length]
            · exact g3 ι3 _ _ (Ext.tup hq) (hR3.tup hq) (.tup upd_same ((cut_rvs rr l u).mo (Mo.tup hq)))
        · rename_i n
          obtain ⟨p, rfl, ea⟩ := rv3.ref_inv
          split at he3
          · rename_i ds q
            obtain ⟨vs, s, rr⟩ := items_sq hR3 q ea
            exact ⟨p, vs, rfl, s, good_new he3 g3 hR3 (cut_rvs rr l u)⟩
          · simp [nvRes] at he3
        · simp [nvRes] at he3
      exact ⟨ι2, h2, ρ, r3, hR2, (hn.mo x1.toMo).mo x2.toMo, e3, g3⟩
    exact ⟨ι1, h1, ρ, r2, hR1, hn.mo x1.toMo, e2, g2⟩
  exact ⟨ι, h, ρ, r1, hR, hn, e1, g1⟩

/-! ### built-in functions -/
def biName : Bi → Str
  | .len => "len" | .int => "int" | .str => "str" | .tuple => "tuple" | .list => "list" | .max => "max" | .sum => "sum" | .any => "any" | .abs => "abs"
def rBlt (K : PySem.W.Frag) (f : Bi) (ds : List D) : List V → Hp → VK → Prop := match f, ds with
  | .len, [.str _] => fun xs H Q => ∃ z, xs = [.str z] ∧ z.length ≤ sizeLine ∧ Q (.int z.length) H
  | .len, _ => fun xs H Q => ∃ p ys, xs = [.ref p] ∧ (SqL K H p ys ∨ SqT K H p ys) ∧ Q (.int ys.length) H
  | .int, _ => fun xs H Q => (∃ i, xs = [.int i] ∧ Q (.int i) H) ∨ ∃ k, xs = [.bl k] ∧ Q (.int (if k then 1 else 0)) H
  | .str, _ => fun xs H Q => ∃ i, xs = [.int i] ∧ i.natAbs.log2 < 1920 ∧ Q (.str (toString i)) H
  | .tuple, _ => fun xs H Q => ∃ p ys, xs = [.ref p] ∧ ((SqL K H p ys ∧ ∀ l, H l = none → Q (.ref l) (upd H l (.tup ys))) ∨ (SqT K H p ys ∧ Q (.ref p) H))
  | .list, _ => fun xs H Q => ∃ p ys, xs = [.ref p] ∧ (SqL K H p ys ∨ SqT K H p ys) ∧ ∀ l, H l = none → Q (.ref l) (upd H l (.lst ys))
  | .max, [_, _] => fun xs H Q => ∃ i j, xs = [.int i, .int j] ∧ Q (.int (if j > i then j else i)) H
  | .max, _ => fun xs H Q => ∃ i j k, xs = [.int i, .int j, .int k] ∧ Q (.int (if k > (if j > i then j else i) then k else (if j > i then j else i))) H
  | .sum, _ => rSum K
  | .abs, _ => fun xs H Q => ∃ i, xs = [.int i] ∧ Q (.int (if i < 0 then -i else i)) H
  | .any, _ => fun _ _ _ => False
theorem asInts_rvs {K : PySem.W.Frag} {ι : List Addr} {H : Hp} {ds : List D} {vs : List V} {is : List Int} (e : asInts ds = some is) (r : Rvs K ι H ds vs) : vs = is.map V.int := by
  induction ds generalizing vs is with
  | nil => cases r; simp [asInts] at e; subst e; rfl
  | cons d ds ih =>
    cases r with
    | cons q r =>
      cases d with
      | int i =>
        simp only [asInts, Option.map_eq_some_iff] at e
        obtain ⟨js, e, rfl⟩ := e
        cases q
        rw [ih e r]
        rfl
      | _ => simp [asInts] at e
theorem blt_ok {K : PySem.W.Frag} {ι : List Addr} {H : Hp} {h : Hb} {f : Bi} {ds : List D} {vs : List V} {r : Res D} {Q : VK} {Qx : XK} (e : nvRes (bltD f h ds) h = some r) (hR : R K ι h H) (rv : Rvs K ι H ds vs) (g : Good K ι H r (RelE K) Q Qx) : rBlt K f ds vs H Q := by
  unfold bltD at e
  split at e
  · cases e
    cases rv with | cons q t => cases t
                                obtain ⟨p, us, rfl, s, rr⟩ := q.tup_inv
                                refine ⟨p, us, rfl, .inr s, ?_⟩
                                rw [← rr.length]; exact g.here hR (.int _)
  · split at e
    · rename_i hl
      cases e
      cases rv with | cons q t => cases t; cases q; exact ⟨_, rfl, hl, g.here hR (.int _)⟩
    · simp [nvRes] at e
  · rename_i n
    cases q' : items h n with
    | none => rw [q'] at e; simp [nvRes] at e
    | some xs =>
      rw [q'] at e; simp only [Option.map_some, nvRes] at e; cases e
      cases rv with | cons q t => cases t
                                  obtain ⟨p, rfl, ea⟩ := q.ref_inv
                                  obtain ⟨us, s, rr⟩ := items_sq hR q' ea
                                  refine ⟨p, us, rfl, .inl s, ?_⟩
                                  rw [← rr.length]; exact g.here hR (.int _)
  · cases e
    cases rv with | cons q t => cases t; cases q; exact .inl ⟨_, rfl, g.here hR (.int _)⟩
  · cases e
    cases rv with | cons q t => cases t; cases q; exact .inr ⟨_, rfl, g.here hR (.int _)⟩
  · split at e
    · rename_i hl
      cases e
      cases rv with | cons q t => cases t; cases q; exact ⟨_, rfl, hl, g.here hR (.str _)⟩
    · simp [nvRes] at e
  · rename_i n
    cases q' : items h n with
    | none => rw [q'] at e; simp [nvRes] at e
    | some xs =>
      rw [q'] at e; simp only [Option.map_some, nvRes] at e; cases e
      cases rv with | cons q t => cases t
                                  obtain ⟨p, rfl, ea⟩ := q.ref_inv
                                  obtain ⟨us, s, rr⟩ := items_sq hR q' ea
                                  exact ⟨p, us, rfl, .inl ⟨s, fun l hl => g ι _ _ (Ext.tup hl) (hR.tup hl) (.tup upd_same (rr.mo (Mo.tup hl)))⟩⟩
  · cases e
    cases rv with | cons q t => cases t
                                obtain ⟨p, us, rfl, s, rr⟩ := q.tup_raw
                                exact ⟨p, us, rfl, .inr ⟨SqT.of s, g.here hR (.tup s rr)⟩⟩
  · rename_i n
    cases q' : items h n with
    | none => rw [q'] at e; simp [nvRes] at e
    | some xs =>
      rw [q'] at e; simp only [Option.map_some] at e
      cases rv with | cons q t => cases t
                                  obtain ⟨p, rfl, ea⟩ := q.ref_inv
                                  obtain ⟨us, s, rr⟩ := items_sq hR q' ea
                                  exact ⟨p, us, rfl, .inl s, good_new e g hR rr⟩
  · cases rv with | cons q t => cases t
                                obtain ⟨p, us, rfl, s, rr⟩ := q.tup_inv
                                exact ⟨p, us, rfl, .inr s, good_new e g hR rr⟩
  · cases rv with | cons q t => cases t
                                obtain ⟨p, us, rfl, s, rr⟩ := q.kl_inv
                                exact ⟨p, us, rfl, .inl s, good_new e g hR rr⟩
  · cases e
    cases rv with | cons q t => cases t with | cons q2 t => cases t; cases q; cases q2; exact ⟨_, _, rfl, g.here hR (.int _)⟩
  · cases e
    cases rv with | cons q t => cases t with | cons q2 t => cases t with | cons q3 t => cases t; cases q; cases q2; cases q3; exact ⟨_, _, _, rfl, g.here hR (.int _)⟩
  · rename_i n
    split at e
    · rename_i xs q'
      cases q2 : asInts xs with
      | none => rw [q2] at e; simp [nvRes] at e
      | some is =>
        rw [q2] at e; simp only [Option.map_some, nvRes] at e; cases e
        cases rv with | cons q t => cases t
                                    obtain ⟨p, rfl, ea⟩ := q.ref_inv
                                    obtain ⟨us, s, rr⟩ := items_sq hR q' ea
                                    rw [asInts_rvs q2 rr] at s
                                    exact ⟨p, is, rfl, s, g.here hR (.int _)⟩
    · simp [nvRes] at e
  · cases e
    cases rv with | cons q t => cases t; cases q; exact ⟨_, rfl, g.here hR (.int _)⟩
  · simp [nvRes] at e
theorem callNo {f : Value} : CallR X f (fun _ _ _ => False) := fun _ _ _ _ _ _ _ _ _ q => q.elim
def valsOf (r : RO (List D)) : List D := match r with
  | some (.ok x _) => x
  | _ => []
theorem backPlain {pos : Pos} {es : List Expr} {env : Env} (h : ∀ e ∈ es, ∀ a p, e ≠ .Starred a p) : (backTo pos (starEach es env)).any (·.1) = false := by
  induction es with
  | nil => rfl
  | cons e es ih =>
    rw [star_cons (h e (by simp))]
    have := ih fun e he => h e (by simp [he])
    simp only [backTo, List.map_cons, List.any_cons, Bool.false_or] at this ⊢
    exact this
theorem snd_blt {f : Bi} {x : Str} {p : Pos} {e : Expr} {es : List Expr} {xs : ExL} (hc : X.calm = true) (hx : x = biName f) (hg : Gl X x) (hm : X.mg x = none) (ha : PA X (e :: es) (tLx X.K F W xs)) (hs : ∀ z ∈ e :: es, ∀ a p, z ≠ .Starred a p) :
    PE X (.Call (.Name x p) (e :: es) [] pos) (tE X.K F W (.blt f xs)) := by
  refine PE.pick ?_
  rintro σ H Q ⟨ι, h, ρ, r, hR, hn, he, g⟩
  simp only [evE] at he
  subst hx
  have st := star_cons (env := X.env) (es := es) (hs e (by simp))
  have bp := backPlain (pos := pos) (env := X.env) (es := es) fun z hz => hs z (by simp [hz])
  have fin : tCB (rBlt X.K f (valsOf (evL F xs ρ h))) (tLx X.K F W xs) σ H Q := by
    obtain ⟨r1, e1, g1⟩ := bnd_good (Rel1 := RelL X.K) (Q1 := fun vs H1 => rBlt X.K f (valsOf (evL F xs ρ h)) vs H1 Q) he g fun ds h1 e1 he1 ι1 H1 vs x1 hR1 rv g1 => by
      have ex : valsOf (evL F xs ρ h) = ds := by rw [e1]; rfl
      rw [ex]
      exact blt_ok he1 hR1 rv g1
    exact ⟨ι, h, ρ, r1, hR, hn, e1, g1⟩
  refine ⟨_, ?_, fin⟩
  cases f with
  | len =>
    refine pe_callB (id := "len") ?_ hg hm PySem.boot_len ha (by decide) (by decide) st bp
    generalize valsOf (evL F xs ρ h) = ds
    match ds with
    | [.str _] => exact call_len_str
    | [] | [.non] | [.bl _] | [.int _] | [.tup _] | [.ref _] | [.kt _] | [.kl _] => exact call_len_seq
    | x :: _ :: _ => cases x <;> exact call_len_seq
  | int => exact pe_callTy (T := "int") call_int1 hg hm (by decide +kernel) ha (by decide) (by decide) st bp
  | str => exact pe_callTy (T := "str") call_str_int hg hm (by decide +kernel) ha (by decide) (by decide) st bp
  | tuple => exact pe_callTy (T := "tuple") call_tuple_of hg hm (by decide +kernel) ha (by decide) (by decide) st bp
  | list => exact pe_callTy (T := "list") call_list_of hg hm (by decide +kernel) ha (by decide) (by decide) st bp
  | max =>
    refine pe_callB (id := "max") ?_ hg hm (by decide +kernel) ha (by decide) (by decide) st bp
    generalize valsOf (evL F xs ρ h) = ds
    match ds with
    | [_, _] => exact call_max2 hc
    | [] | [_] | _ :: _ :: _ :: _ => exact call_max3 hc
  | sum => exact pe_callB (id := "sum") (cr_sum hc) hg hm (by decide +kernel) ha (by decide) (by decide) st bp
  | abs => exact pe_callB (id := "abs") call_abs hg hm (by decide +kernel) ha (by decide) (by decide) st bp
  | any => exact pe_callB (id := "any") callNo hg hm (by decide +kernel) ha (by decide) (by decide) st bp
end
end Ev

set_option Elab.async false
set_option linter.all false
set_option maxRecDepth 100000
set_option autoImplicit false
/-! Ev8: isinstance, methods of lists and dicts, displays of dicts, list(d.values()). -/
namespace Ev
open PySem PySem.Spec PyProof.Rows L2
open He (ga ma)

/-! ### isinstance -/
def tyS : Ty → String
  | .int => "int" | .bool => "bool" | .str => "str" | .tuple => "tuple" | .list => "list"
def tyN : Ty → Str
  | .int => "int" | .bool => "bool" | .str => "str" | .tuple => "tuple" | .list => "list"
def tnS : Tn → String
  | .none => "NoneType" | .bool => "bool" | .int => "int" | .str => "str" | .tuple => "tuple" | .list => "list"
theorem kitB_ok (t : Tn) (T : Ty) : kitB (tnS t) (tyS T) = some (kitD t T) := by
  cases t <;> cases T <;> decide +kernel
theorem tyBoot (T : Ty) : bootBuiltins (tyN T) = some (.type (tyS T)) := by cases T <;> decide +kernel
theorem kitOne_ok (K : PySem.W.Frag) (t : Tn) (T : Ty) : PySem.W.kitOne K (.type (tnS t)) (.type (tyS T)) = some (kitD t T) := kit_ty (kitB_ok t T)
theorem kitAny_ok (K : PySem.W.Frag) (t : Tn) (ts : List Ty) : PySem.W.kitAny K (.type (tnS t)) (ts.map fun T => .type (tyS T)) = some (ts.any fun T => kitD t T) := by
  induction ts with
  | nil => rfl
  | cons T ts ih =>
    simp only [List.map_cons, List.any_cons]
    refine kitAny_cons (kitOne_ok K t T) (fun h => ?_) fun h => ?_
    · rw [ih, h]; rfl
    · rw [h]; rfl
theorem tyX_of {K : PySem.W.Frag} {ι : List Addr} {H : Hp} {h : Hb} {d : D} {v : V} {t : Tn} (e : tyOf h d = some t) (hR : R K ι h H) (r : Rv K ι H d v) : TyX K H v (.type (tnS t)) := by
  cases r with
  | non => cases e; exact .base .non
  | bl b => cases e; exact .base (.bl b)
  | int i => cases e; exact .base (.int i)
  | str s => cases e; exact .base (.str s)
  | kt s q => cases e
  | kl s q => cases e
  | tup s q => cases e; exact .base (.tup s)
  | @ref n a ea =>
    simp only [tyOf, Option.map_eq_some_iff] at e
    obtain ⟨ds, e, rfl⟩ := e
    obtain ⟨vs, s, _⟩ := items_sq hR e ea
    rcases s with (s | ⟨o, s⟩) | ⟨o, _, _, s, c, _⟩
    · exact .base (.lst s)
    · exact .base (.frz s)
    · exact .kList s c
inductive TyNames (X : Cx) : List Expr → List Ty → Prop where
  | nil : TyNames X [] []
  | cons {T : Ty} {p : Pos} {es : List Expr} {ts : List Ty} : Gl X (tyN T) → X.mg (tyN T) = none → TyNames X es ts → TyNames X (.Name (tyN T) p :: es) (T :: ts)

section
variable {X : Cx} {F : Fn} {W : WX} {pos p p2 : Pos} {a b c o : Expr} {xa xb xc xo : Ex}
theorem pe_ty {T : Ty} (hg : Gl X (tyN T)) (hm : X.mg (tyN T) = none) : PE X (.Name (tyN T) pos) (tC (.ty (tyS T))) :=
  pe_bltn hg hm (tyBoot T) rfl (by cases T <;> decide) (by cases T <;> decide)
def tTys (ts : List Ty) : TA := fun _ H Q => Q (ts.map fun T => .ty (tyS T)) H
theorem pa_tys {es : List Expr} {ts : List Ty} (h : TyNames X es ts) : PA X es (tTys ts) := by
  induction h with
  | nil => exact pa_nil
  | cons hg hm t ih => exact (pa_cons (pe_ty hg hm) ih (star_cons (by intro _ _ z; cases z))).imp fun σ H Q q => q
theorem clsVs (ts : List Ty) : Paired ClsV (ts.map fun T => V.ty (tyS T)) (ts.map fun T => Value.type (tyS T)) := by
  induction ts with
  | nil => exact .nil
  | cons T ts ih => exact .cons (.ty _) ih
theorem bool_isin {h : Hb} {ts : List Ty} {d : D} {c : Bool} (e : isAny h d ts = some c) : ∃ t, tyOf h d = some t ∧ c = ts.any fun T => kitD t T := by
  simp only [isAny, Option.map_eq_some_iff] at e
  obtain ⟨t, e1, e2⟩ := e
  exact ⟨t, e1, e2.symm⟩
theorem snd_isin1 {T : Ty} (ha : PE X a (tE X.K F W xa)) (hi : Gl X "isinstance") (hm : X.mg "isinstance" = none) (hT : Gl X (tyN T)) (hmT : X.mg (tyN T) = none) (hs : ∀ z p, a ≠ .Starred z p) :
    PE X (.Call (.Name "isinstance" p) [a, .Name (tyN T) p2] [] pos) (tE X.K F W (.isin xa [T] true)) := by
  refine (pe_callB (id := "isinstance") call_isi hi hm (by decide +kernel) (pa_cons ha (pa_cons (pe_ty hT hmT) pa_nil (star_cons (by intro _ _ z; cases z))) (star_cons hs)) (by decide) (by decide) (star_cons hs)
    (backPlain (by intro e he; simp at he; subst he; intro _ _ z; cases z))).imp ?_
  rintro σ H Q ⟨ι, h, ρ, r, hR, hn, he, g⟩
  simp only [evE] at he
  obtain ⟨r1, e1, g1⟩ := bnd_good (Rel1 := RelE X.K) (Q1 := fun v H1 => rIsi X.K [v, .ty (tyS T)] H1 Q) he g fun d h1 e1 he1 ι1 H1 v x1 hR1 rv g1 => by
    split at he1
    · rename_i c' q
      cases he1
      obtain ⟨t, e2, rfl⟩ := bool_isin q
      exact ⟨v, _, _, _, _, rfl, .ty _, tyX_of e2 hR1 rv, kitOne_ok X.K t T, by simpa using g1.here hR1 (.bl _)⟩
    · cases he1
  exact ⟨ι, h, ρ, r1, hR, hn, e1, g1⟩
theorem snd_isinT {ts : List Ty} {es : List Expr} {k : Nat} (ha : PE X a (tE X.K F W xa)) (hi : Gl X "isinstance") (hm : X.mg "isinstance" = none) (hT : TyNames X es ts) (hl : ts.length ≤ sizeLine) (hs : ∀ z p, a ≠ .Starred z p) :
    PE X (.Call (.Name "isinstance" p) [a, .Tuple es k p2] [] pos) (tE X.K F W (.isin xa ts false)) := by
  refine (pe_callB (id := "isinstance") call_isiT hi hm (by decide +kernel) (pa_cons ha (pa_cons (pe_tup (pa_tys hT)) pa_nil (star_cons (by intro _ _ z; cases z))) (star_cons hs)) (by decide) (by decide) (star_cons hs)
    (backPlain (by intro e he; simp at he; subst he; intro _ _ z; cases z))).imp ?_
  rintro σ H Q ⟨ι, h, ρ, r, hR, hn, he, g⟩
  simp only [evE] at he
  obtain ⟨r1, e1, g1⟩ := bnd_good (Rel1 := RelE X.K) (Q1 := fun v H1 => (ts.map fun T => V.ty (tyS T)).length ≤ sizeLine ∧ ∀ q, H1 q = none → rIsiT X.K [v, .ref q] (upd H1 q (.tup (ts.map fun T => V.ty (tyS T)))) Q) he g fun d h1 e1 he1 ι1 H1 v x1 hR1 rv g1 => by
    split at he1
    · rename_i c' q
      cases he1
      obtain ⟨t, e2, rfl⟩ := bool_isin q
      refine ⟨by simpa using hl, fun q hq => ?_⟩
      have m := Mo.tup (K := X.K) (ι := ι1) (xs := ts.map fun T => V.ty (tyS T)) hq
      exact ⟨v, q, _, _, _, _, rfl, upd_same, clsVs ts, tyX_of e2 (hR1.tup hq) (rv.mo m), kitAny_ok X.K t ts, g1 ι1 _ _ (Ext.tup hq) (hR1.tup hq) (.bl _)⟩
    · cases he1
  exact ⟨ι, h, ρ, r1, hR, hn, e1, g1⟩

/-! ### methods of lists -/
theorem few1 {e : Expr} {cpos : Pos} (hs : ∀ z p, e ≠ .Starred z p) : ((backTo cpos (starEach [e] X.env)).all (fun x => !x.1) && (backToKw cpos (keywordEach [] X.env)).all (fun x => x.1.isSome)
      && decide (([e] : List Expr).length + ([] : List Keyword).length + (if ([] : List Keyword).isEmpty then 0 else 1) < 30)) = true := by
  rw [star_cons hs]; rfl
theorem plain1 {cpos : Pos} : (backTo cpos (starEach [] X.env)).any (·.1) = false := rfl
def bmName : Bm → Str
  | .append => "append" | .extend => "extend" | .setd => "setdefault" | .count => "count" | .get2 => "get"
def rBm (K : PySem.W.Frag) : Bm → V → List V → Hp → VK → Prop
  | .append => rAppend
  | .extend => fun x vs H Q => rExtT K x vs H Q ∨ rExtend x vs H Q
  | .count => rCntI K
  | _ => fun _ _ _ _ => False
theorem bm_ok {K : PySem.W.Frag} {ι : List Addr} {H : Hp} {h : Hb} {m : Bm} {x : D} {ds : List D} {v : V} {vs : List V} {r : Res D} {Q : VK} {Qx : XK} (hm : m ≠ .setd) (e : (match bmD m h x ds with | some (d, h3) => some (.ok d h3) | none => none) = some r)
    (hR : R K ι h H) (rx : Rv K ι H x v) (rv : Rvs K ι H ds vs) (g : Good K ι H r (RelE K) Q Qx) : rBm K m v vs H Q := by
  split at e
  · rename_i d h3 q
    cases e
    unfold bmD at q
    split at q
    · rename_i n y
      cases rv with | cons ry t => cases t
                                   obtain ⟨p, rfl, ea⟩ := rx.ref_inv
                                   split at q
                                   · rename_i xs ex
                                     split at q
                                     · rename_i hl
                                       cases q
                                       obtain ⟨us, hu, ru⟩ := lst_at hR ex ea
                                       refine ⟨p, us, _, rfl, rfl, hu, by rw [← ru.length]; exact hl, ?_⟩
                                       refine g ι _ _ (Ext.put hR ex ea rfl) (hR.put ex ea rfl rfl ⟨_, upd_same, ?_⟩) .non
                                       exact (ru.append (.one ry)).mo (Mo.put hR ex ea rfl)
                                     · cases q
                                   · cases q
    · rename_i n ys
      cases rv with | cons ry t => cases t
                                   obtain ⟨p, rfl, ea⟩ := rx.ref_inv
                                   obtain ⟨b, ws, rfl, hb, rw'⟩ := ry.tup_inv
                                   split at q
                                   · rename_i xs ex
                                     split at q
                                     · rename_i hl
                                       cases q
                                       obtain ⟨us, hu, ru⟩ := lst_at hR ex ea
                                       refine .inl ⟨p, b, us, ws, rfl, rfl, hu, hb, by rw [← ru.length, ← rw'.length]; exact hl, ?_⟩
                                       refine g ι _ _ (Ext.put hR ex ea rfl) (hR.put ex ea rfl rfl ⟨_, upd_same, ?_⟩) .non
                                       exact (ru.append rw').mo (Mo.put hR ex ea rfl)
                                     · cases q
                                   · cases q
    · rename_i n m'
      cases rv with | cons ry t => cases t
                                   obtain ⟨p, rfl, ea⟩ := rx.ref_inv
                                   obtain ⟨b, rfl, eb⟩ := ry.ref_inv
                                   split at q
                                   · rename_i xs ys ex ey
                                     split at q
                                     · rename_i hl
                                       cases q
                                       obtain ⟨us, hu, ru⟩ := lst_at hR ex ea
                                       obtain ⟨ws, hw, rw'⟩ := lst_at hR ey eb
                                       refine .inr ⟨p, b, us, ws, rfl, rfl, hu, hw, by rw [← ru.length, ← rw'.length]; exact hl.2, ?_⟩
                                       refine g ι _ _ (Ext.put hR ex ea rfl) (hR.put ex ea rfl rfl ⟨_, upd_same, ?_⟩) .non
                                       exact (ru.append rw').mo (Mo.put hR ex ea rfl)
                                     · cases q
                                   · cases q
    · exact absurd rfl hm
    · rename_i n i
      cases rv with | cons ry t => cases t
                                   cases ry
                                   obtain ⟨p, rfl, ea⟩ := rx.ref_inv
                                   split at q
                                   · rename_i xs ex
                                     split at q
                                     · rename_i is ei
                                       cases q
                                       obtain ⟨us, hu, ru⟩ := items_sq hR ex ea
                                       rw [asInts_rvs ei ru] at hu
                                       exact ⟨p, is, i, rfl, rfl, hu, g.here hR (.int _)⟩
                                     · cases q
                                   · cases q
    · cases q
  · cases e
theorem ty_list {K : PySem.W.Frag} {ι : List Addr} {H : Hp} {h : Hb} {n : Nat} {v : V} (e : (items h n).isSome = true) (hR : R K ι h H) (r : Rv K ι H (.ref n) v) : tyV K "list" v H := by
  obtain ⟨ds, e⟩ := Option.isSome_iff_exists.mp e
  obtain ⟨a, rfl, ea⟩ := r.ref_inv
  obtain ⟨vs, s, _⟩ := items_sq hR e ea
  exact .inl ⟨rfl, vs, s⟩
theorem snd_bm {m : Bm} {nm : Str} {e : Expr} {xs : ExL} {apos cpos : Pos} (hnm : nm = bmName m) (hm : m ≠ .setd) (hm2 : m ≠ .get2) (ho : PE X o (tE X.K F W xo)) (ha : PA X [e] (tLx X.K F W xs)) (hb : noSup o = true) (hs : ∀ z p, e ≠ .Starred z p) (hl : (apos.endLine == cpos.line) = true) :
    PE X (.Call (.Attribute o nm apos) [e] [] cpos) (tE X.K F W (.bm m xo xs)) := by
  subst hnm
  have fin : ∀ σ H Q, tE X.K F W (.bm m xo xs) σ H Q → tBM X.K "list" (rBm X.K m) (tE X.K F W xo) (tLx X.K F W xs) σ H Q := by
    rintro σ H Q ⟨ι, h, ρ, r, hR, hn, he, g⟩
    simp only [evE] at he
    obtain ⟨r1, e1, g1⟩ := bnd_good (Rel1 := RelE X.K) (Q1 := fun v H1 => tyV X.K "list" v H1 ∧ tLx X.K F W xs σ H1 fun vs H2 => rBm X.K m v vs H2 Q) he g fun d h1 e1 he1 ι1 H1 v x1 hR1 rv g1 => by
      split at he1
      · rename_i hb
        refine ⟨?_, ?_⟩
        · cases m with
          | setd => exact absurd rfl hm
          | get2 => simp [bmT] at hb
          | _ => cases d <;> simp [bmT] at hb; exact ty_list hb hR1 rv
        · obtain ⟨r2, e2, g2⟩ := bnd_good (Rel1 := RelL X.K) (Q1 := fun vs H2 => rBm X.K m v vs H2 Q) he1 g1 fun ds h2 e2 he2 ι2 H2 vs x2 hR2 rvs g2 =>
            bm_ok hm he2 hR2 (rv.mo x2.toMo) rvs g2
          exact ⟨ι1, h1, ρ, r2, hR1, hn.mo x1.toMo, e2, g2⟩
      · cases he1
    exact ⟨ι, h, ρ, r1, hR, hn, e1, g1⟩
  cases m with
  | append => exact (pe_bm PySem.F.plainAttrs_list PySem.F.slot_list_append PySem.F.type_list_append mt_append ho ha (attr_base hb) (few1 hs) hl (star_cons hs) plain1).imp fin
  | extend => exact (pe_bm PySem.F.plainAttrs_list PySem.F.slot_list_extend PySem.F.type_list_extend (fun pins s σ H x ys v us Q I r1 r2 q => q.elim (mt_extT pins s σ H x ys v us Q I r1 r2) (mt_extend pins s σ H x ys v us Q I r1 r2)) ho ha (attr_base hb) (few1 hs) hl (star_cons hs) plain1).imp fin
  | count => exact (pe_bm PySem.F.plainAttrs_list PySem.F.slot_list_count PySem.F.type_list_count mt_lcount ho ha (attr_base hb) (few1 hs) hl (star_cons hs) plain1).imp fin
  | setd => exact absurd rfl hm
  | get2 => exact absurd rfl hm2

/-! ### setdefault, a key that is a tuple -/
theorem keys_raw {K : PySem.W.Frag} {ι : List Addr} {H : Hp} {ds : List D} {vs : List V} {ks : List L2.Key} (e : keysOf ds = some ks) (r : Rvs K ι H ds vs) : vs = ks.map kV := by
  induction ds generalizing vs ks with
  | nil => cases r; simp [keysOf] at e; subst e; rfl
  | cons d ds ih =>
    cases r with
    | cons q r =>
      simp only [keysOf] at e
      split at e
      · rename_i k ks' e1 e2
        cases e
        rw [ih e2 r]
        cases q <;> simp [keyOf] at e1 <;> subst e1 <;> rfl
      · cases e
theorem m2 {e f : Expr} {nm : Str} {apos cpos : Pos} (hb : noSup o = true) (hs1 : ∀ z p, e ≠ .Starred z p) (hs2 : ∀ z p, f ≠ .Starred z p) (hl : (apos.endLine == cpos.line) = true) : M2 X o nm apos e f cpos where
  base := attr_base hb
  few := by rw [star_cons hs1, star_cons hs2]; rfl
  line := hl
  trees := by rw [star_cons hs1, star_cons hs2]; rfl
theorem snd_setd {e f : Expr} {xe xf : Ex} {apos cpos : Pos} (hu : X.A.units + 1 < cLine) (ho : PE X o (tE X.K F W xo)) (he : PE X e (tE X.K F W xe)) (hf : PE X f (tE X.K F W xf)) (hb : noSup o = true)
    (hs1 : ∀ z p, e ≠ .Starred z p) (hs2 : ∀ z p, f ≠ .Starred z p) (hl : (apos.endLine == cpos.line) = true) :
    PE X (.Call (.Attribute o "setdefault" apos) [e, f] [] cpos) (tE X.K F W (.bm .setd xo (.cons xe (.cons xf .nil)))) := by
  refine (pe_dsetdT hu ho he hf (m2 hb hs1 hs2 hl)).imp ?_
  rintro σ H Q ⟨ι, h, ρ, r, hR, hn, he, g⟩
  simp only [evE] at he
  obtain ⟨r1, e1, g1⟩ := bnd_good (Rel1 := RelE X.K) (Q1 := fun v H1 => ∃ a, v = .ref a ∧ IsD H1 a ∧ tE X.K F W xe σ H1 fun y H2 => tE X.K F W xf σ H2 fun z H3 => ∃ (kvs : List (List L2.Key × V)) (k : List L2.Key) (b : Addr), H3 a = some (.dT kvs) ∧ y = .ref b ∧ H3 b = some (.tup (k.map kV)) ∧ kvs.length < sizeLine ∧
      (∀ v, valV kvs k = some v → Q v H3) ∧ (valV kvs k = none → Q z (upd H3 a (.dT (putK kvs k z))))) he g fun d h1 e1 he1 ι1 H1 v x1 hR1 rv g1 => by
    split at he1
    · rename_i hbm
      cases d with
      | ref n =>
        obtain ⟨a, rfl, ea⟩ := rv.ref_inv
        refine ⟨a, rfl, ?_, ?_⟩
        · simp only [bmT] at hbm
          split at hbm
          · rename_i kvs q
            obtain ⟨ws, hw, _⟩ := hR1.obj _ _ _ q ea
            exact .inr ⟨ws, .inl hw⟩
          · cases hbm
        · simp only [evL] at he1
          cases c2 : evE F xe ρ h1 with
          | none => rw [c2] at he1; simp [bnd] at he1
          | some r2 =>
          refine ⟨ι1, h1, ρ, r2, hR1, hn.mo x1.toMo, c2, ?_⟩
          rw [c2] at he1
          cases r2 with
          | exc c fs h' => simp [bnd] at he1; subst he1; exact g1
          | ok y h2 =>
          intro ι2 H2 yv x2 hR2 ry
          have g2 := g1.lift x2
          simp only [bnd] at he1
          cases c3 : evE F xf ρ h2 with
          | none => rw [c3] at he1; simp at he1
          | some r3 =>
          refine ⟨ι2, h2, ρ, r3, hR2, (hn.mo x1.toMo).mo x2.toMo, c3, ?_⟩
          rw [c3] at he1
          cases r3 with
          | exc c fs h' => simp at he1; subst he1; exact g2
          | ok z h3 =>
          intro ι3 H3 zv x3 hR3 rz
          have g3 := g2.lift x3
          simp only at he1
          have ea3 := x3.toMo.pre _ _ (x2.toMo.pre _ _ ea)
          have ry3 := ry.mo x3.toMo
          split at he1
          · rename_i d' h4 q
            cases he1
            unfold bmD at q
            split at q
            · rename_i q0 _ _; cases q0
            · rename_i q0 _ _; cases q0
            · rename_i q0 _ _; cases q0
            · rename_i n' ks d2 _ hx hds
              cases hx
              cases hds
              split at q
              · rename_i kvs k ek1 ek2
                obtain ⟨b, ws, rfl, hb', rk⟩ := ry3.tup_raw
                rw [keys_raw ek2 rk] at hb'
                obtain ⟨us, hu', ru⟩ := hR3.obj _ _ _ ek1 ea3
                split at q
                case isFalse => cases q
                rename_i hl'
                split at q
                · rename_i v' ev
                  cases q
                  obtain ⟨w, hw, rw'⟩ := ru.val_some ev
                  refine ⟨us, k, b, hu', rfl, hb', ?_, fun v0 hv0 => ?_, fun hv0 => ?_⟩
                  · rw [← ru.length]; exact hl'
                  · rw [hw] at hv0; cases hv0; exact g3.here hR3 rw'
                  · rw [hw] at hv0; cases hv0
                · rename_i ev
                  cases q
                  have hnone := ru.val_none ev
                  refine ⟨us, k, b, hu', rfl, hb', by rw [← ru.length]; exact hl', fun v0 hv0 => ?_, fun _ => ?_⟩
                  · rw [hnone] at hv0; cases hv0
                  · refine g3 ι3 _ _ (Ext.put hR3 ek1 ea3 rfl) (hR3.put ek1 ea3 rfl rfl ⟨_, upd_same, ?_⟩) (rz.mo (Mo.put hR3 ek1 ea3 rfl))
                    exact (ru.put_new hnone rz).mo (Mo.put hR3 ek1 ea3 rfl)
              · cases q
            · rename_i q0 _ _; cases q0
            · cases q
          · cases he1
      | _ => simp [bmT] at hbm
    · cases he1
  exact ⟨ι, h, ρ, r1, hR, hn, e1, g1⟩
end
end Ev

set_option Elab.async false
set_option linter.all false
set_option maxRecDepth 100000
set_option autoImplicit false
/-! Ev9: displays of dicts, list(d.values()), what loops walk, targets. -/
namespace Ev
open PySem PySem.Spec PyProof.Rows L2
open He (ga ma)

/-! ### several expressions, one by one -/
inductive PEs (X : Cx) (F : Fn) (W : WX) : List Expr → ExL → Prop where
  | nil : PEs X F W [] .nil
  | cons {e : Expr} {es : List Expr} {x : Ex} {xs : ExL} : PE X e (tE X.K F W x) → (∀ a p, e ≠ .Starred a p) → PEs X F W es xs → PEs X F W (e :: es) (.cons x xs)
theorem PEs.pa {X : Cx} {F : Fn} {W : WX} {es : List Expr} {xs : ExL} (h : PEs X F W es xs) : PA X es (tLx X.K F W xs) := by
  induction h with
  | nil => exact snd_nil
  | cons a b c ih => exact snd_cons a ih b
theorem PEs.star {X : Cx} {F : Fn} {W : WX} {es : List Expr} {xs : ExL} (h : PEs X F W es xs) : ∀ z ∈ es, ∀ a p, z ≠ .Starred a p := by
  induction h with
  | nil => intro z hz; simp at hz
  | cons a b c ih =>
    intro z hz
    rcases List.mem_cons.mp hz with rfl | hz
    · exact b
    · exact ih z hz

/-! ### displays of dicts -/
section
variable {X : Cx} {F : Fn} {W : WX} {pos p p2 : Pos} {a b c o : Expr} {xa xb xc xo : Ex}
/-- {k: v, ..}, p new in the written part too (pe_disp with that fact) -/
def tDispK (K : PySem.W.Frag) (trs : List (TE × TE)) : TE := fun σ H Q => ∀ p, H p = none → K.lookup p = none → tPairs trs σ (upd H p (.dK [])) fun ps H2 => H2 p = some (.dK []) ∧ ∃ kvs : List (L2.Key × V), ps = kvs.map (fun kv => (kV kv.1, kv.2)) ∧ kvs.length ≤ 15 ∧ Q (.ref p) (upd H2 p (.dK (mergeK [] kvs)))
theorem pe_dispK {keys : List (Option Expr)} {values : List Expr} {trs : List (TE × TE)} (h : PPs X pos keys values trs) (hall : keys.all (·.isSome) = true) (hl : keys.length = values.length) (h0 : keys ≠ []) (h15 : keys.length ≤ 15) :
    PE X (.Dict keys values pos) (tDispK X.K trs) := by
  refine ⟨fun pins s σ H Q I q => ?_⟩
  have hn := I.hok.fresh (Nat.le_refl s.heap.objs.size)
  have hk : X.K.lookup s.heap.objs.size = none := by
    cases z : X.K.lookup s.heap.objs.size with
    | none => rfl
    | some o => exact absurd (Heap.lt_size (I.kIn _ o z)) (Nat.lt_irrefl _)
  have I1 := I.laid (a := s.heap.objs.size) (o := .dK []) (h' := s.heap.push { cls := .type "dict", data := .dict #[] }) (t' := s.toks) (fun _ _ q => Heap.get?_push_of_some _ q) (Nat.le_refl _) (dk_empty s.heap I.big)
  refine wpAny_Dict_walk (knd := mixKind X.prog X.w) hall hl h0 h15 (thn (h.run pins _ σ _ _ I1 (q _ hn hk)) fun ws s2 ⟨ps, H2, I2, rel, e, kvs, ep, lk, q2⟩ => ?_)
  subst ep
  obtain ⟨rs, cr, rk⟩ := carries_of (P := X.prog) (w := X.w) rel
  obtain ⟨z, hd, vs0, r0, dd⟩ := dk_of I2.hok e
  cases r0
  refine ⟨rs, cr, dd, fun h' dd' hs => ⟨.ref s.heap.objs.size, _, ?_, rfl, q2⟩⟩
  have lm := length_mergeK kvs []
  have hz : (mergeK [] kvs).length ≤ sizeLine := by
    rw [List.length_nil] at lm
    rw [sizeLine_eq]; omega
  obtain ⟨q, es, ep, hq, rest⟩ := id dd'
  exact d_write I2 (by rw [e]; exact True.intro) hs ⟨q, hq⟩ (dk_new hz hd (rk.merge .nil) dd')

inductive KeyStrs : List (Option Expr) → List Str → Prop where
  | nil : KeyStrs [] []
  | cons {s : Str} {j : Nat} {p : Pos} {ks : List (Option Expr)} {ss : List Str} : KeyStrs ks ss → KeyStrs (some (.Constant (.str s) j p) :: ks) (s :: ss)
def trsOf (K : PySem.W.Frag) (F : Fn) (W : WX) : List Str → ExL → List (TE × TE)
  | s :: ss, .cons x xs => (tC (.str s), tE K F W x) :: trsOf K F W ss xs
  | _, _ => []
theorem pps_of {ks : List (Option Expr)} {ss : List Str} {es : List Expr} {xs : ExL} (hk : KeyStrs ks ss) (hl : ss.length = es.length) (h : PEs X F W es xs) : PPs X pos ks es (trsOf X.K F W ss xs) := by
  induction hk generalizing es xs with
  | nil => cases h with
    | nil => exact pps_nil
    | cons _ _ _ => simp at hl
  | cons k ih => cases h with
    | nil => simp at hl
    | cons a b c => exact pps_cons pe_str a (ih (by simpa using hl) c)
theorem tR_mono {K : PySem.W.Frag} {W : WX} {α β : Type} {Rel : List Addr → Hp → α → β → Prop} {ev : En → Hb → RO α} {σ : L2.St} {H : Hp} {Q Q' : β → Hp → Prop} (m : ∀ b H, Q b H → Q' b H) (q : tR K W Rel ev σ H Q) : tR K W Rel ev σ H Q' := by
  obtain ⟨ι, h, ρ, r, hR, hn, he, g⟩ := q
  refine ⟨ι, h, ρ, r, hR, hn, he, ?_⟩
  cases r with
  | ok a h' => exact fun ι' H' b x r q => m b H' (g ι' H' b x r q)
  | exc c fs h' => exact g
theorem tPairs_mono {K : PySem.W.Frag} {ss : List Str} {σ : L2.St} : ∀ {xs : ExL} {H : Hp} {P P' : List (V × V) → Hp → Prop}, (∀ ps H, P ps H → P' ps H) → (True) → tPairs (trsOf K F W ss xs) σ H P → tPairs (trsOf K F W ss xs) σ H P' := by
  induction ss with
  | nil => intro xs H P P' m _ q; cases xs <;> exact m _ _ q
  | cons s ss ih =>
    intro xs H P P' m _ q
    cases xs with
    | nil => exact m _ _ q
    | cons x xs => exact tR_mono (fun y H2 q => ih (fun ps H3 q => m _ _ q) trivial q) q
def exLen : ExL → Nat
  | .nil => 0
  | .cons _ xs => exLen xs + 1
theorem evL_len {xs : ExL} : ∀ {ρ : En} {h h' : Hb} {ds : List D}, evL F xs ρ h = some (.ok ds h') → ds.length = exLen xs := by
  induction xs using ExL.rec (motive_1 := fun _ => True) (motive_3 := fun _ => True) (motive_4 := fun _ => True) (motive_5 := fun _ => True) with
  | nil => intro ρ h h' ds e; simp only [evL] at e; cases e; rfl
  | cons x xs _ ih =>
    intro ρ h h' ds e
    simp only [evL] at e
    cases e1 : evE F x ρ h with
    | none => rw [e1] at e; cases e
    | some r1 =>
      rw [e1] at e
      cases r1 with
      | exc _ _ _ => cases e
      | ok d h1 =>
        simp only [bnd] at e
        cases e2 : evL F xs ρ h1 with
        | none => rw [e2] at e; cases e
        | some r2 =>
          rw [e2] at e
          cases r2 with
          | exc _ _ _ => cases e
          | ok es h2 => cases e; simp [exLen, ih e2]
  | _ => trivial
theorem pairs_of {K : PySem.W.Frag} {ss : List Str} : ∀ {xs : ExL} {σ : L2.St} {H : Hp} {Q : List V → Hp → Prop}, exLen xs = ss.length →
    tLx K F W xs σ H Q → tPairs (trsOf K F W ss xs) σ H fun ps H2 => ∃ vs, ps = (ss.zip vs).map (fun p => (V.str p.1, p.2)) ∧ Q vs H2 := by
  induction ss with
  | nil =>
    intro xs σ H Q hl q
    cases xs with
    | nil =>
      obtain ⟨ι, h, ρ, r, hR, hn, he, g⟩ := q
      simp only [evL] at he; cases he
      exact ⟨[], rfl, g.here hR .nil⟩
    | cons x xs => simp [exLen] at hl
  | cons s ss ih =>
    intro xs σ H Q hl q
    cases xs with
    | nil => simp [exLen] at hl
    | cons x xs =>
      obtain ⟨ι, h, ρ, r, hR, hn, he, g⟩ := q
      simp only [evL] at he
      show tE K F W x σ H fun y H2 => tPairs (trsOf K F W ss xs) σ H2 fun ps H3 => ∃ vs, (V.str s, y) :: ps = ((s :: ss).zip vs).map (fun p => (V.str p.1, p.2)) ∧ Q vs H3
      obtain ⟨r1, e1, g1⟩ := bnd_good (Rel1 := RelE K) (Q1 := fun y H2 => tPairs (trsOf K F W ss xs) σ H2 fun ps H3 => ∃ vs, (V.str s, y) :: ps = ((s :: ss).zip vs).map (fun p => (V.str p.1, p.2)) ∧ Q vs H3) he g fun d h1 e1 he1 ι1 H1 v x1 hR1 rv g1 => by
        have z : tLx K F W xs σ H1 fun vs H2 => Q (v :: vs) H2 := by
          obtain ⟨r2, e2, g2⟩ := bnd_good (Rel1 := RelL K) (Q1 := fun vs H2 => Q (v :: vs) H2) he1 g1 fun ds h2 e2 he2 ι2 H2 vs x2 hR2 rvs g2 => by
            cases he2
            exact g2.here hR2 (.cons (rv.mo x2.toMo) rvs)
          exact ⟨ι1, h1, ρ, r2, hR1, hn.mo x1.toMo, e2, g2⟩
        have z' := ih (by simpa [exLen] using hl) z
        refine tPairs_mono ?_ trivial z'
        rintro ps H3 ⟨vs, rfl, q⟩
        exact ⟨v :: vs, rfl, q⟩
      exact ⟨ι, h, ρ, r1, hR, hn, e1, g1⟩
theorem putK_new {κ : Type} [DecidableEq κ] {kvs : List (κ × V)} {k : κ} {v : V} (h : ∀ p ∈ kvs, p.1 ≠ k) : putK kvs k v = kvs ++ [(k, v)] := by
  unfold putK
  rw [if_neg]
  simp only [List.any_eq_true, decide_eq_true_eq, not_exists, not_and]
  exact h
theorem mergeK_new : ∀ {more kvs : List (L2.Key × V)}, (more.map (·.1)).Nodup → (∀ p ∈ more, ∀ q ∈ kvs, q.1 ≠ p.1) → mergeK kvs more = kvs ++ more
  | [], kvs, _, _ => by simp [mergeK]
  | m :: more, kvs, nd, h => by
    show mergeK (putK kvs m.1 m.2) more = _
    rw [putK_new (h m (by simp))]
    simp only [List.map_cons, List.nodup_cons] at nd
    rw [mergeK_new nd.2]
    · simp
    · intro p hp q hq
      rcases List.mem_append.mp hq with hq | hq
      · exact h p (by simp [hp]) q hq
      · simp at hq; subst hq
        exact fun e => nd.1 (by rw [e]; exact List.mem_map_of_mem hp)
theorem zip_nd {ss : List Str} {vs : List V} (nd : ss.Nodup) (hl : ss.length ≤ vs.length) : (((ss.map Sum.inr : List L2.Key).zip vs).map (·.1)).Nodup := by
  have z : List.Nodup (ss.map Sum.inr : List L2.Key) := by
    clear hl
    induction ss with
    | nil => simp
    | cons a l ih =>
      simp only [List.nodup_cons, List.map_cons] at nd ⊢
      exact ⟨fun m => by
        obtain ⟨b, hb, e⟩ := List.mem_map.mp m
        cases e
        exact nd.1 hb, ih nd.2⟩
  have sub : ((ss.map Sum.inr : List L2.Key).zip vs).map (·.1) = (ss.map Sum.inr : List L2.Key) := List.map_fst_zip (by simpa using hl)
  rw [sub]
  exact z
theorem zip_kv {K : PySem.W.Frag} {ι : List Addr} {H : Hp} : ∀ {ks : List L2.Key} {ds : List D} {vs : List V}, Rvs K ι H ds vs → Rkv K ι H (ks.zip ds) (ks.zip vs)
  | [], _, _, _ => by simp; exact .nil
  | k :: ks, _, _, .nil => by simp; exact .nil
  | k :: ks, _, _, .cons r t => .cons ⟨rfl, r⟩ (zip_kv t)
theorem zip_shape : ∀ (ss : List Str) (vs : List V), (ss.zip vs).map (fun p => (V.str p.1, p.2)) = ((ss.map Sum.inr : List L2.Key).zip vs).map fun kv => (kV kv.1, kv.2)
  | [], _ => rfl
  | s :: ss, [] => rfl
  | s :: ss, v :: vs => by simp only [List.zip_cons_cons, List.map_cons, zip_shape ss vs]; rfl
theorem snd_disp {ks : List (Option Expr)} {ss : List Str} {es : List Expr} {xs : ExL} (hk : KeyStrs ks ss) (h : PEs X F W es xs) (hle : ss.length = es.length) (hlx : exLen xs = ss.length) (hall : ks.all (·.isSome) = true) (hl : ks.length = es.length) (h0 : ks ≠ []) (h15 : ks.length ≤ 15) :
    PE X (.Dict ks es pos) (tE X.K F W (.disp ss xs)) := by
  refine (pe_dispK (pps_of hk hle h) hall hl h0 h15).imp ?_
  rintro σ H Q ⟨ι, h, ρ, r, hR, hn, he, g⟩ p hp hkp
  simp only [evE] at he
  have npι := hR.notin hp
  have m0 : Mo X.K ι H ι (upd H p (.dK [])) := ⟨fun _ _ e => e, fun a vs e => sqT_upd e (by rw [hp]; simp), fun a o vs e => frl_upd e (by rw [hp]; simp)⟩
  have x0 : Ext X.K ι H ι (upd H p (.dK [])) := Ext.ofFresh hp m0
  have hR0 := hR.fresh hp m0
  have z : tLx X.K F W xs σ (upd H p (.dK [])) fun vs H2 => H2 p = some (.dK []) ∧ Q (.ref p) (upd H2 p (.dK (mergeK [] ((ss.map Sum.inr : List L2.Key).zip vs)))) := by
    cases e1 : evL F xs ρ h with
    | none => rw [e1] at he; cases he
    | some r1 =>
      refine ⟨ι, h, ρ, r1, hR0, hn.mo m0, e1, ?_⟩
      rw [e1] at he
      cases r1 with
      | exc c fs h' =>
        simp only [bnd] at he
        cases he
        exact fun ι' H' cls d x hr hx => g ι' H' cls d (x0.trans x) hr hx
      | ok ds h1 =>
        intro ι' H' vs x hr rv
        simp only [bnd] at he
        split at he
        · rename_i hc
          cases he
          obtain ⟨f1, f2⟩ := x.frame p _ npι upd_same
          refine ⟨f1, ?_⟩
          rw [mergeK_new (zip_nd hc.2.2 (by rw [hc.1, rv.length]; exact Nat.le_refl _)) (by intro _ _ q hq; simp at hq), List.nil_append]
          have lenE := hr.len
          have mA : Mo X.K ι' H' (ι' ++ [p]) (upd H' p (.dK ((ss.map Sum.inr : List L2.Key).zip vs))) := Mo.adopt f1 (by simp) (by simp)
          refine g (ι' ++ [p]) _ (.ref p) (Ext.adopt hp npι (w := .dK []) (by simp) (by simp) x fun a ha => upd_ne ha) (hr.adopt f2 f1 (by simp) (by simp) rfl ⟨_, upd_same, (zip_kv rv).mo mA⟩) (.ref ?_)
          rw [← lenE, List.getElem?_append_right (Nat.le_refl _)]
          simp
        · cases he
  have hl15 : ss.length ≤ 15 := by rw [hle, ← hl]; exact h15
  have z' := pairs_of hlx z
  refine tPairs_mono ?_ trivial z'
  rintro ps H2 ⟨vs, rfl, e2, q⟩
  refine ⟨e2, (ss.map Sum.inr : List L2.Key).zip vs, zip_shape ss vs, ?_, q⟩
  simp; omega

/-! ### list(d.values()) -/
theorem snd_lvals {i : Nat} {x : Str} {p1 p2 apos cpos pos : Pos} (hc : X.calm = true) (hN : X.N[i]? = some x) (hv : Vis X.env.scope x) (hd : (x == ("__debug__" : Str)) = false) (hcd : (x == ("__classdict__" : Str)) = false) (hg : Gl X "list") (hm : X.mg "list" = none) (hl : (apos.endLine == cpos.line) = true) :
    PE X (.Call (.Name "list" p1) [.Call (.Attribute (.Name x p2) "values" apos) [] [] cpos] [] pos) (tE X.K F W (.lvals i)) := by
  have hs : ∀ (a : Expr) (q : Pos), Expr.Call (.Attribute (.Name x p2) "values" apos) [] [] cpos ≠ .Starred a q := by intro _ _ z; cases z
  refine (pe_callTy (T := "list") (call_list_valsT hc) hg hm (by decide +kernel) (pa_cons (pe_bm0 PySem.F.plainAttrs_dict PySem.F.slot_dict_values PySem.F.type_dict_values mt_valsT (snd_var (F := F) (W := W) hN hv hd hcd) (attr_base rfl) hl) pa_nil (star_cons hs)) (by decide) (by decide) (star_cons hs) (backPlain (by intro e he; simp at he))).imp ?_
  rintro σ H Q ⟨ι, h, ρ, r, hR, hn, he, g⟩
  simp only [evE] at he
  split at he
  · rename_i n e
    split at he
    · rename_i kvs q
      refine ⟨ι, h, ρ, .ok (.ref n) h, hR, hn, by simp only [evE]; rw [e], ?_⟩
      intro ι1 H1 v x1 hR1 rv
      have g1 := g.lift x1
      obtain ⟨a, rfl, ea⟩ := rv.ref_inv
      obtain ⟨ws, hw, rk⟩ := hR1.obj _ _ _ q ea
      refine ⟨.inr (.inr (.inl ⟨rfl, .inr ⟨ws, hw⟩⟩)), a, ws, rfl, rfl, hw, fun p hp => ?_⟩
      have mp : Mo X.K ι1 H1 ι1 (upd H1 p (valsO p a)) := ⟨fun _ _ e => e, fun b vs e => sqT_upd e (by rw [hp]; simp), fun b o vs e => frl_upd e (by rw [hp]; simp)⟩
      have hR2 := hR1.fresh hp mp
      have x2 := Ext.ofFresh hp mp
      have rvs : ∀ {kvs : List (List L2.Key × D)} {ws : List (List L2.Key × V)}, Rkv X.K ι1 H1 kvs ws → Rvs X.K ι1 H1 (kvs.map (·.2)) (ws.map (·.2)) := by
        intro kvs ws r
        induction r with
        | nil => exact .nil
        | cons z t ih => exact .cons z.2 ih
      refine ⟨p, a, ws, rfl, upd_same, by rw [upd_ne (ne_of_none hw hp)]; exact hw, good_new he (g1.lift x2) hR2 ((rvs rk).mo mp)⟩
    · cases he
  · cases he
end
end Ev

set_option Elab.async false
set_option linter.all false
set_option maxRecDepth 100000
set_option autoImplicit false
/-! Ev10: what loops walk, the targets of loops. -/
namespace Ev
open PySem PySem.Spec PyProof.Rows L2
open He (ga ma)

/-- an iterator of ours lies as one of the layer's -/
def Sim (K : PySem.W.Frag) (ι : List Addr) (H : Hp) : It → L2.It → Prop
  | .lst n, L => ∃ a, ι[n]? = some a ∧ L = Itl K a
  | .tup ds, L => (∃ a vs, (H a = some (.tup vs) ∨ SqK K a vs) ∧ Rvs K ι H ds vs ∧ L = Itt K a) ∨ ∃ d od ws, H d = some (.frz od (.dT ws)) ∧ Rvs K ι H ds (ws.map (·.2)) ∧ L = ItdT d od ws
  | .rng lo n, L => L = Itr lo n
  | .enum n, L => ∃ a, ι[n]? = some a ∧ L = Ite K a
  | .zip n m, L => ∃ a b, ι[n]? = some a ∧ ι[m]? = some b ∧ L = Itz K a b
section
variable {K : PySem.W.Frag} {ι ι' : List Addr} {H H' : Hp} {h : Hb} {J : It} {L : L2.It} {i : Nat} {d : D}
theorem Sim.ext (s : Sim K ι H J L) (x : Ext K ι H ι' H') : Sim K ι' H' J L := by
  cases J with
  | lst n => obtain ⟨a, e, q⟩ := s; exact ⟨a, x.pre _ _ e, q⟩
  | tup ds =>
    rcases s with ⟨a, vs, e, r, q⟩ | ⟨d, od, ws, e, r, q⟩
    · exact .inl ⟨a, vs, e.imp (x.tups _ _) id, r.mo x.toMo, q⟩
    · exact .inr ⟨d, od, ws, x.frzs _ _ _ e, r.mo x.toMo, q⟩
  | rng lo n => exact s
  | enum n => obtain ⟨a, e, q⟩ := s; exact ⟨a, x.pre _ _ e, q⟩
  | zip n m => obtain ⟨a, b, e, e2, q⟩ := s; exact ⟨a, b, x.pre _ _ e, x.pre _ _ e2, q⟩
theorem Rvs.none_of {ds : List D} {vs : List V} (r : Rvs K ι H ds vs) (e : ds[i]? = none) : vs.length ≤ i := by
  rw [← r.length]; exact List.getElem?_eq_none_iff.mp e
theorem Sim.stop (s : Sim K ι H J L) (hR : R K ι h H) (e : J.at h i = some none) : L.stop i H := by
  cases J with
  | lst n =>
    obtain ⟨a, ea, rfl⟩ := s
    simp only [It.at, Option.map_eq_some_iff] at e
    obtain ⟨ds, e1, e2⟩ := e
    obtain ⟨vs, s, r⟩ := items_sq hR e1 ea
    exact ⟨vs, s, r.none_of e2⟩
  | tup ds =>
    simp only [It.at, Option.some.injEq] at e
    rcases s with ⟨a, vs, ea, r, rfl⟩ | ⟨d, od, ws, ea, r, rfl⟩
    · exact ⟨vs, ea.elim SqT.of (fun z => .inr z), r.none_of e⟩
    · exact ⟨ea, by simpa using r.none_of e⟩
  | rng lo n =>
    cases s
    simp only [It.at, Option.some.injEq] at e
    split at e
    · cases e
    · show n ≤ i; omega
  | enum n =>
    obtain ⟨a, ea, rfl⟩ := s
    simp only [It.at, Option.map_eq_some_iff] at e
    obtain ⟨ds, e1, e2⟩ := e
    obtain ⟨vs, s, r⟩ := items_sq hR e1 ea
    exact ⟨vs, s, r.none_of (by simpa using e2)⟩
  | zip n m =>
    obtain ⟨a, b, ea, eb, rfl⟩ := s
    simp only [It.at] at e
    split at e
    · rename_i xs ys e1 e2
      obtain ⟨vs, s, r⟩ := items_sq hR e1 ea
      obtain ⟨us, s2, r2⟩ := items_sq hR e2 eb
      refine ⟨vs, us, s, s2, ?_⟩
      simp only [Option.some.injEq] at e
      cases q1 : xs[i]? with
      | none => exact .inl (r.none_of q1)
      | some x =>
        cases q2 : ys[i]? with
        | none => exact .inr (r2.none_of q2)
        | some y => rw [q1, q2] at e; cases e
    · cases e
theorem Sim.go (s : Sim K ι H J L) (hR : R K ι h H) (e : J.at h i = some (some d)) : L.go i H ∧ ∀ x H', L.yld i H x H' → Ext K ι H ι H' ∧ R K ι h H' ∧ Rv K ι H' d x := by
  cases J with
  | lst n =>
    obtain ⟨a, ea, rfl⟩ := s
    simp only [It.at, Option.map_eq_some_iff] at e
    obtain ⟨ds, e1, e2⟩ := e
    obtain ⟨vs, s, r⟩ := items_sq hR e1 ea
    obtain ⟨v, hv, rv⟩ := r.get e2
    refine ⟨⟨vs, v, s, hv⟩, ?_⟩
    rintro x H' ⟨rfl, hx⟩
    have := hx vs s
    rw [hv] at this; cases this
    exact ⟨Ext.refl, hR, rv⟩
  | tup ds =>
    simp only [It.at, Option.some.injEq] at e
    rcases s with ⟨a, vs, ea, r, rfl⟩ | ⟨d', od, ws, ea, r, rfl⟩
    · obtain ⟨v, hv, rv⟩ := r.get e
      have s : SqT K H a vs := ea.elim SqT.of (fun z => .inr z)
      refine ⟨⟨vs, v, s, hv⟩, ?_⟩
      rintro x H' ⟨rfl, hx⟩
      have := hx vs s
      rw [hv] at this; cases this
      exact ⟨Ext.refl, hR, rv⟩
    · obtain ⟨v, hv, rv⟩ := r.get e
      rw [List.getElem?_map] at hv
      refine ⟨⟨ea, ?_⟩, ?_⟩
      · cases q : ws[i]? with
        | none => rw [q] at hv; simp at hv
        | some w => exact (List.getElem?_eq_some_iff.mp q).1
      · rintro x H' ⟨rfl, k, hk⟩
        rw [hk] at hv
        simp at hv
        subst hv
        exact ⟨Ext.refl, hR, rv⟩
  | rng lo n =>
    cases s
    simp only [It.at, Option.some.injEq] at e
    split at e
    · rename_i hi
      cases e
      refine ⟨hi, ?_⟩
      rintro x H' ⟨rfl, rfl⟩
      exact ⟨Ext.refl, hR, .int _⟩
    · cases e
  | enum n =>
    obtain ⟨a, ea, rfl⟩ := s
    simp only [It.at, Option.map_eq_some_iff] at e
    obtain ⟨ds, e1, e2⟩ := e
    obtain ⟨d', e2, rfl⟩ := e2
    obtain ⟨vs, s, r⟩ := items_sq hR e1 ea
    obtain ⟨v, hv, rv⟩ := r.get e2
    refine ⟨⟨vs, v, s, hv⟩, ?_⟩
    rintro x H' ⟨T, x', rfl, hT, rfl, hx⟩
    have := hx vs s
    rw [hv] at this; cases this
    exact ⟨Ext.tup hT, hR.tup hT, .tup upd_same (.cons (.int _) (.cons (rv.mo (Mo.tup hT)) .nil))⟩
  | zip n m =>
    obtain ⟨a, b, ea, eb, rfl⟩ := s
    simp only [It.at] at e
    split at e
    · rename_i xs ys e1 e2
      obtain ⟨vs, s, r⟩ := items_sq hR e1 ea
      obtain ⟨us, s2, r2⟩ := items_sq hR e2 eb
      simp only [Option.some.injEq] at e
      split at e
      · rename_i x y q1 q2
        cases e
        obtain ⟨v, hv, rv⟩ := r.get q1
        obtain ⟨u, hu, ru⟩ := r2.get q2
        refine ⟨⟨vs, us, v, u, s, s2, hv, hu⟩, ?_⟩
        rintro x' H' ⟨T, x1, y1, rfl, hT, rfl, hx, hy⟩
        have z1 := hx vs s
        have z2 := hy us s2
        rw [hv] at z1; cases z1
        rw [hu] at z2; cases z2
        exact ⟨Ext.tup hT, hR.tup hT, .tup upd_same (.cons (rv.mo (Mo.tup hT)) (.cons (ru.mo (Mo.tup hT)) .nil))⟩
      · cases e
    · cases e
end

/-! ### reading an iterable -/
theorem _root_.L2.PI.pick {X : Cx} {tg e : Expr} {t : TI} (h : ∀ σ H Q, t σ H Q → ∃ t' : TI, PI X tg e t' ∧ t' σ H Q) : PI X tg e t :=
  ⟨fun pins s σ H Q I q => let ⟨_, p, q'⟩ := h σ H Q q; p.run pins s σ H Q I q'⟩
theorem _root_.L2.PI.imp {X : Cx} {tg e : Expr} {t t' : TI} (p : PI X tg e t') (h : ∀ σ H Q, t σ H Q → t' σ H Q) : PI X tg e t := PI.pick fun σ H Q q => ⟨t', p, h σ H Q q⟩
abbrev RelI (K : PySem.W.Frag) : List Addr → Hp → It → L2.It → Prop := fun ι H J L => Sim K ι H J L
abbrev tI (K : PySem.W.Frag) (F : Fn) (W : WX) (x : Itx) : TI := tR K W (RelI K) (evI F x)
section
variable {X : Cx} {F : Fn} {W : WX} {pos p p2 : Pos} {a b e : Expr} {xa xb x : Ex} {tg : Expr}
theorem snd_ival (ha : PE X e (tE X.K F W x)) : PI X tg e (tI X.K F W (.val x)) := by
  refine PI.pick ?_
  rintro σ H Q ⟨ι, h, ρ, r, hR, hn, he, g⟩
  simp only [evI] at he
  have go : ∀ (isT : Bool), (∀ d h1, evE F x ρ h = some (.ok d h1) → (match d with | .ref _ => false | _ => true) = isT) →
      tE X.K F W x σ H fun v H1 => if isT then ∃ a, v = .ref a ∧ (∃ xs, SqT X.K H1 a xs) ∧ Q (Itt X.K a) H1 else ∃ a, v = .ref a ∧ (∃ xs, SqL X.K H1 a xs) ∧ Q (Itl X.K a) H1 := fun isT hT => by
    obtain ⟨r1, e1, g1⟩ := bnd_good (Rel1 := RelE X.K) (Q1 := fun v H1 => if isT = true then ∃ a, v = .ref a ∧ (∃ xs, SqT X.K H1 a xs) ∧ Q (Itt X.K a) H1 else ∃ a, v = .ref a ∧ (∃ xs, SqL X.K H1 a xs) ∧ Q (Itl X.K a) H1) he g fun d h1 e1 he1 ι1 H1 v x1 hR1 rv g1 => by
      have hd := hT d h1 e1
      split at he1
      · cases he1
        simp only at hd
        subst hd
        obtain ⟨a, vs, rfl, s, rr⟩ := rv.tup_raw
        simp only [if_true]
        exact ⟨a, rfl, ⟨vs, SqT.of s⟩, g1 ι1 H1 _ Ext.refl hR1 (.inl ⟨a, vs, .inl s, rr, rfl⟩)⟩
      · cases he1
        simp only at hd
        subst hd
        cases rv with
        | kt s rr =>
        simp only [if_true]
        exact ⟨_, rfl, ⟨_, .inr s⟩, g1 ι1 H1 _ Ext.refl hR1 (.inl ⟨_, _, .inr s, rr, rfl⟩)⟩
      · rename_i n
        split at he1
        · rename_i hi
          cases he1
          simp only at hd
          subst hd
          obtain ⟨ds, e'⟩ := Option.isSome_iff_exists.mp hi
          obtain ⟨a, rfl, ea⟩ := rv.ref_inv
          obtain ⟨vs, s, rr⟩ := items_sq hR1 e' ea
          simp only [Bool.false_eq_true, if_false]
          exact ⟨a, rfl, ⟨vs, s⟩, g1 ι1 H1 _ Ext.refl hR1 ⟨a, ea, rfl⟩⟩
        · cases he1
      · cases he1
    exact ⟨ι, h, ρ, r1, hR, hn, e1, g1⟩
  by_cases c : ∃ n h1, evE F x ρ h = some (.ok (.ref n) h1)
  · obtain ⟨n, h1, ec⟩ := c
    refine ⟨_, pi_list ha, ?_⟩
    have z := go false fun d h2 e2 => by rw [ec] at e2; cases e2; rfl
    exact z
  · refine ⟨_, pi_tup ha, ?_⟩
    have z := go true fun d h2 e2 => by cases d with
      | ref n => exact absurd ⟨n, h2, e2⟩ c
      | _ => rfl
    exact z
theorem snd_irng1 {xs : Ex} (ha : PE X a (tE X.K F W xa)) (hg : Gl X "range") (hm : X.mg "range" = none) (hs : ∀ z p, a ≠ .Starred z p) : PI X tg (.Call (.Name "range" p) [a] [] pos) (tI X.K F W (.rng1 xa)) := by
  refine (pi_range1 hg hm (snd_cons ha snd_nil hs) (star_cons hs)).imp ?_
  rintro σ H Q ⟨ι, h, ρ, r, hR, hn, he, g⟩
  simp only [evI] at he
  cases e1 : evE F xa ρ h with
  | none => rw [e1] at he; cases he
  | some r1 =>
    rw [e1] at he
    cases r1 with
    | exc c fs h1 => simp only [bnd] at he; cases he; exact ⟨ι, h, ρ, .exc c fs h1, hR, hn, by simp [evL, e1, bnd], g⟩
    | ok d h1 =>
      refine ⟨ι, h, ρ, .ok [d] h1, hR, hn, by simp [evL, e1, bnd], fun ι1 H1 vs x1 hR1 rv => ?_⟩
      simp only [bnd] at he
      split at he
      · rename_i j
        split at he
        · rename_i hf
          cases he
          cases rv with | cons q t => cases t; cases q
                                      simp only [fits62, decide_eq_true_eq] at hf
                                      exact ⟨j, rfl, hf.1, hf.2, g ι1 H1 _ x1 hR1 rfl⟩
        · cases he
      · cases he
theorem snd_irng (ha : PE X a (tE X.K F W xa)) (hb : PE X b (tE X.K F W xb)) (hg : Gl X "range") (hm : X.mg "range" = none) (hs : ∀ z p, a ≠ .Starred z p) (hs2 : ∀ z p, b ≠ .Starred z p) : PI X tg (.Call (.Name "range" p) [a, b] [] pos) (tI X.K F W (.rng xa xb)) := by
  refine (pi_range2 hg hm (snd_cons ha (snd_cons hb snd_nil hs2) hs) (by rw [star_cons hs, star_cons hs2]; rfl) (star_cons hs2)).imp ?_
  rintro σ H Q ⟨ι, h, ρ, r, hR, hn, he, g⟩
  simp only [evI] at he
  have key : evL F (.cons xa (.cons xb .nil)) ρ h = bnd (evE F xa ρ h) fun x h1 => bnd (evE F xb ρ h1) fun y h2 => some (.ok [x, y] h2) := by
    simp only [evL]
    congr 1; funext x h1
    cases evE F xb ρ h1 with
    | none => rfl
    | some r => cases r <;> rfl
  cases e1 : evE F xa ρ h with
  | none => rw [e1] at he; cases he
  | some r1 =>
    rw [e1] at he key
    cases r1 with
    | exc c fs h1 => simp only [bnd] at he key; cases he; exact ⟨ι, h, ρ, _, hR, hn, key, g⟩
    | ok x h1 =>
      simp only [bnd] at he key
      cases e2 : evE F xb ρ h1 with
      | none => rw [e2] at he; cases he
      | some r2 =>
        rw [e2] at he key
        cases r2 with
        | exc c fs h2 => simp only at he key; cases he; exact ⟨ι, h, ρ, _, hR, hn, key, g⟩
        | ok y h2 =>
          simp only at he key
          refine ⟨ι, h, ρ, _, hR, hn, key, fun ι1 H1 vs x1 hR1 rv => ?_⟩
          split at he
          · rename_i i j
            split at he
            · rename_i hf
              cases he
              cases rv with | cons q t => cases t with | cons q2 t => cases t; cases q; cases q2
                                                                      simp only [fits62, decide_eq_true_eq] at hf
                                                                      exact ⟨i, j, rfl, ⟨hf.1.1, hf.1.2, hf.2.1, hf.2.2⟩, g ι1 H1 _ x1 hR1 rfl⟩
            · cases he
          · cases he
theorem snd_ienum {elts : List Expr} {kk : Nat} {tpos : Pos} (ha : PE X a (tE X.K F W xa)) (hg : Gl X "enumerate") (hm : X.mg "enumerate" = none) (hs : ∀ z p, a ≠ .Starred z p) : PI X (.Tuple elts kk tpos) (.Call (.Name "enumerate" p) [a] [] pos) (tI X.K F W (.enum xa)) := by
  refine (pi_enum hg hm (snd_cons ha snd_nil hs) (star_cons hs)).imp ?_
  rintro σ H Q ⟨ι, h, ρ, r, hR, hn, he, g⟩
  simp only [evI] at he
  cases e1 : evE F xa ρ h with
  | none => rw [e1] at he; cases he
  | some r1 =>
    rw [e1] at he
    cases r1 with
    | exc c fs h1 => simp only [bnd] at he; cases he; exact ⟨ι, h, ρ, .exc c fs h1, hR, hn, by simp [evL, e1, bnd], g⟩
    | ok d h1 =>
      refine ⟨ι, h, ρ, .ok [d] h1, hR, hn, by simp [evL, e1, bnd], fun ι1 H1 vs x1 hR1 rv => ?_⟩
      simp only [bnd] at he
      split at he
      · rename_i n
        split at he
        · rename_i hi
          cases he
          obtain ⟨ds, e'⟩ := Option.isSome_iff_exists.mp hi
          cases rv with | cons q t => cases t
                                      obtain ⟨p', rfl, ea⟩ := q.ref_inv
                                      obtain ⟨us, s, rr⟩ := items_sq hR1 e' ea
                                      exact ⟨p', us, rfl, s, g ι1 H1 _ x1 hR1 ⟨p', ea, rfl⟩⟩
        · cases he
      · cases he
end

/-! ### targets -/
section
variable {X : Cx}
def rTg (K : PySem.W.Frag) : Tg → TG
  | .nm i => gName i
  | .tu is => gTup K is.length (is.foldr (fun i t => gCons (gName i) t) gNil)
theorem Rn.set {K : PySem.W.Frag} {ι : List Addr} {H : Hp} {ρ : En} {σ : L2.St} (r : Rn K ι H ρ σ) {i : Nat} {d : D} {v : V} (q : Rv K ι H d v) : Rn K ι H (setVar ρ i d) (σ.set i (some v)) := by
  refine ⟨by simp [setVar, r.len], fun j x e => ?_⟩
  unfold setVar at e
  by_cases hj : i = j
  · subst hj
    have hl := (List.getElem?_eq_some_iff.mp e).1
    simp at hl
    rw [List.getElem?_set_self hl] at e
    cases e
    exact ⟨v, by rw [List.getElem?_set_self (by rw [← r.len]; exact hl)], q⟩
  · rw [List.getElem?_set_ne hj] at e
    rw [List.getElem?_set_ne hj]
    exact r.at_ j x e
theorem tg_ok {K : PySem.W.Frag} {ι : List Addr} {H : Hp} {g : Tg} {ρ ρ' : En} {σ : L2.St} {d : D} {v : V} {Q : L2.St → Hp → Prop} (e : bindTg ρ g d = some ρ') (hn : Rn K ι H ρ σ) (r : Rv K ι H d v)
    (h : ∀ σ', Rn K ι H ρ' σ' → σ'.length = σ.length → (∀ j, j ∉ g.slots → σ'[j]? = σ[j]?) → Q σ' H) : rTg K g v σ H Q := by
  cases g with
  | nm i =>
    simp only [bindTg] at e; cases e
    exact h _ (hn.set r) (by simp) fun j hj => List.getElem?_set_ne (by simp [Tg.slots] at hj; omega)
  | tu is =>
    cases d with
    | tup ds =>
      simp only [bindTg] at e
      split at e
      · rename_i hl
        cases e
        obtain ⟨a, vs, rfl, s, rr⟩ := r.tup_inv
        refine ⟨a, vs, rfl, s, by rw [← rr.length, hl], ?_⟩
        have go : ∀ (is : List Nat) (ds : List D) (vs : List V) (ρ : En) (σ : L2.St) (Q : L2.St → Hp → Prop), is.length = ds.length → Rn K ι H ρ σ → Rvs K ι H ds vs →
            (∀ σ', Rn K ι H ((is.zip ds).foldl (fun ρ p => setVar ρ p.1 p.2) ρ) σ' → σ'.length = σ.length → (∀ j, j ∉ is → σ'[j]? = σ[j]?) → Q σ' H) → (is.foldr (fun i t => gCons (gName i) t) gNil) vs σ H Q := by
          intro is
          induction is with
          | nil =>
            intro ds vs ρ σ Q hl hn rr h
            cases ds with
            | nil => cases rr; exact ⟨rfl, h σ hn rfl fun _ _ => rfl⟩
            | cons _ _ => simp at hl
          | cons i is ih =>
            intro ds vs ρ σ Q hl hn rr h
            cases rr with
            | nil => simp at hl
            | @cons d v ds vs r1 rr =>
              refine ⟨v, vs, rfl, ?_⟩
              refine ih ds vs (setVar ρ i d) _ Q (by simpa using hl) (hn.set r1) rr fun σ' h1 h2 h3 => ?_
              refine h σ' h1 (by simpa using h2) fun j hj => ?_
              simp only [List.mem_cons, not_or] at hj
              rw [h3 j hj.2, List.getElem?_set_ne (Ne.symm hj.1)]
        exact go is ds vs ρ σ Q hl hn rr h
      · cases e
    | _ => simp [bindTg] at e
/-- the targets' text -/
inductive TgOk (X : Cx) : Expr → Tg → Prop where
  | nm {i : Nat} {x : Str} {p : Pos} : X.N[i]? = some x → Loc X.env.scope x → (X.fn x = true ∨ X.env.scope.names.lookup x = some .local) → TgOk X (.Name x p) (.nm i)
  | tu {es : List Expr} {is : List Nat} {k : Nat} {p : Pos} : X.calm = true → es.length = is.length → (∀ (j : Nat) (e : Expr) (i : Nat), es[j]? = some e → is[j]? = some i → ∃ (x : Str) (p : Pos), e = Expr.Name x p ∧ X.N[i]? = some x ∧ Loc X.env.scope x ∧ (X.fn x = true ∨ X.env.scope.names.lookup x = some .local)) → TgOk X (.Tuple es k p) (.tu is)
theorem snd_tg {e : Expr} {g : Tg} (hN : X.N.Nodup) (h : TgOk X e g) : PG X e (rTg X.K g) := by
  cases h with
  | nm h1 h2 h3 => exact pg_name hN h1 h2 h3
  | @tu es is k p hc hl h =>
    have go : ∀ (es : List Expr) (is : List Nat), es.length = is.length → (∀ (j : Nat) (e : Expr) (i : Nat), es[j]? = some e → is[j]? = some i → ∃ (x : Str) (p : Pos), e = Expr.Name x p ∧ X.N[i]? = some x ∧ Loc X.env.scope x ∧ (X.fn x = true ∨ X.env.scope.names.lookup x = some .local)) →
        PGs X es (is.foldr (fun i t => gCons (gName i) t) gNil) ∧ (assignEach es X.env).length = is.length ∧ (assignEach es X.env).findIdx? (·.1) = none := by
      intro es
      induction es with
      | nil =>
        intro is hl h
        cases is with
        | nil => exact ⟨pgs_nil, rfl, rfl⟩
        | cons _ _ => simp at hl
      | cons e es ih =>
        intro is hl h
        cases is with
        | nil => simp at hl
        | cons i is =>
          obtain ⟨x, p, rfl, h1, h2, h3⟩ := h 0 e i rfl rfl
          obtain ⟨i1, i2, i3⟩ := ih is (by simpa using hl) fun j e i a b => h (j + 1) e i (by simpa using a) (by simpa using b)
          refine ⟨pgs_cons (pg_name hN h1 h2 h3) i1 rfl, by simp [assignEach, i2], ?_⟩
          simp only [assignEach, List.findIdx?_cons, Bool.false_eq_true, if_false, i3, Option.map_none]
    obtain ⟨i1, i2, i3⟩ := go es is hl h
    exact pg_tup hc i1 i2 i3
end
end Ev

set_option Elab.async false
set_option linter.all false
set_option maxRecDepth 100000
set_option autoImplicit false
/-! Ev11: list comprehensions out of which an exception may fly (HandS.Comp's block lets none out). -/
namespace Ev
open PySem PySem.Spec PyProof.Rows L2
open He (ga ma)

/-- a comprehension's block that may raise -/
abbrev blx (X : Cx) (s : Shared) (H : Hp) (scope : Scope) (ce : Env) (fp : List Addr) : Cx :=
  { X.blk s H scope ce fp with xe := notedBy (model X.prog X.w) X.A ce (CompFails (model X.prog X.w) X.A X.xe ce) }

section
variable {X : Cx} {B : Heap} {l : List Env} {a C : Addr} {Z : Obj → Prop} {h : Heap}
/-- the ground without one object -/
theorem fly_hide (f : HandSPX.FlyingZ B l a Z h) : HandSPX.FlyingZ (PySem.W.hideAll B [C]) l a Z h := by
  have sub : ∀ b, B.get? b = none → (PySem.W.hideAll B [C]).get? b = none := fun b e => by
    cases q : (PySem.W.hideAll B [C]).get? b with
    | none => rfl
    | some o => rw [PySem.W.of_hideAll _ q] at e; cases e
  obtain ⟨f1, f2, f3, oe, vs, T, oT, ts, he, hz, hd, h1, hnT, r⟩ := f
  refine ⟨fun b o e => f1 b o (PySem.W.of_hideAll _ e), sub _ f2, ?_, oe, vs, T, oT, ts, he, hz, hd, h1, sub _ hnT, r⟩
  have go : ∀ {l : List Env}, h.FunFrames B l → h.FunFrames (PySem.W.hideAll B [C]) l := by
    intro l
    induction l with
    | nil => intro _; trivial
    | cons env r ih =>
      intro hl
      obtain ⟨hk, ⟨L, o, hf, hn, ho, hd⟩, hr⟩ := hl
      exact ⟨hk, ⟨L, o, hf, sub _ hn, ho, hd⟩, ih hr⟩
  exact go f3
theorem noRec {m : Str → Option Value} {o : Obj} {vs : Array Value} {b : Addr} (hn : h.Ns C m) (e : h.get? b = some o) (d : o.data = .fields vs) : b ≠ C := fun z => by
  obtain ⟨o', es, ep, ho', hd', _⟩ := hn
  rw [z, ho'] at e; cases e
  rw [hd'] at d; cases d

variable {pins : List (Addr × Obj)} {σ : L2.St} {H3 : Hp} {s3 : Shared} {scope : Scope} {ce : Env} {fp : List Addr} {W : WX}
/-- an exception that flies out of the block is in the def's air -/
theorem pass_blk (tk : Takes X W) (hs : X.stack = X.env :: X.outer) (hf : X.env.frame = some X.env.locals) (hcf : ce.frame = X.env.frame) (I3 : Inv X pins σ H3 s3) (hC : s3.heap.objs.size ≤ ce.locals)
    (hfp : ∀ b ∈ fp, FpOk X pins H3 b) (σ' : L2.St) : PassesAt (L2.CX X.prog X.w) (blx X s3 H3 scope ce fp) σ' (fun cls d H' => W cls d σ H') := by
  intro pins' H s e s' I c
  have c0 := c
  obtain ⟨a0, B0, H0, cls0, d0, rfl, fl0, _⟩ := c0
  have x := XE.of_call (W := fun cls d _ H' => W cls d σ H') I (fun _ _ _ q => q) c
  obtain ⟨a, B, sI, pinsI, σI, H', cls, d, ea, I', nb, up, sky, na, os, ag, w⟩ := x
  cases ea
  -- it flies
  have fl : HandSPX.FlyingZ B X.stack a0 (Zc cls d) s'.heap := by
    obtain ⟨_, _, _, oe, vs, T, oT, ts, he, _, hd, h1, _, _, hT, hdT, h3⟩ := fl0
    rcases sky with ⟨_, _, _, oe', vs', he', _, hd', h1'⟩ | f | ⟨_, _, _, oe', vs', T', oT', ts', he', _, hd', h1', _, _, hT', hdT', h3'⟩
    · rw [he] at he'; cases he'
      rw [hd] at hd'; cases hd'
      rw [h1] at h1'; cases h1'
    · exact f
    · rw [he] at he'; cases he'
      rw [hd] at hd'; cases hd'
      rw [h1] at h1'; cases h1'
      rw [hT] at hT'; cases hT'
      rw [hdT] at hdT'; cases hdT'
      rw [h3] at h3'
      simp [rawInt] at h3'
  obtain ⟨m, hn, _⟩ := I'.loc
  have hn : sI.heap.Ns ce.locals m := hn
  have hn' : s'.heap.Ns ce.locals m := hn.upToSlots up
  have fC : H' ce.locals = none := I'.free
  have fl' := fly_hide (C := ce.locals) fl
  have hfr : X.A.frames = some (X.env :: X.outer) := by rw [I3.ok.frames, hs]
  have hidN : ∀ b o, sI.heap.get? b = some o → b ≠ ce.locals → (PySem.W.hideAll sI.heap [ce.locals]).get? b = some o := fun b o e n => PySem.W.hideAll_get _ e (by simpa using n)
  -- the state without the exception and without the block's own names
  have J : Inv X pins σ H' { sI with heap := PySem.W.hideAll sI.heap [ce.locals] } := by
    have bs := I'.base
    have old : ∀ b o, s3.heap.get? b = some o → b ≠ ce.locals := fun b o e z => by
      have := Heap.lt_size e
      rw [z] at this
      exact absurd (Nat.lt_of_lt_of_le this hC) (Nat.lt_irrefl _)
    refine I3.call' (ch := fp) I'.os ⟨fun b o e n hb hx => hidN _ _ (bs.keep b o e n hb hx) (old b o e), fun b o e n hb hx => ?_, fun b o e n hx => bs.free b o e n hx, fun b o e hx => ?_, bs.tups, bs.frzs, bs.tbls⟩ (fun b o q => ?_) I'.bare fun b hb => ?_
    · obtain ⟨sl, z⟩ := bs.slot b o e n hb hx
      exact ⟨sl, hidN _ _ z (old b o e)⟩
    · obtain ⟨o', z⟩ := bs.there b o e hx
      exact ⟨o', hidN _ _ z (old b o e)⟩
    · refine (I'.hok b o q).stay (fun c u hc r => hidN _ _ r fun z => ?_) (fun _ r => r) fun _ _ r => r
      rcases hc with hc | hc
      · rw [hc] at z; rw [z, fC] at q; cases q
      · rw [z, fC] at hc; cases hc
    · obtain ⟨f0, f1, f2, f3, f4, f5⟩ := hfp b hb
      exact ⟨f3, f1, f4, f5⟩
  show wpAny (model X.prog X.w) X.A (noteFrame (.ref a0) ce) _ _ s'
  rw [noteFrame_env _ hcf]
  rw [hs] at fl'
  refine HandSPX.looks_onZ Zc.steady hfr hf fl' fun h1 hh up1 => ?_
  refine ⟨m, hn'.upToSlots up1, fun h2 m2 hn2 sb => ?_⟩
  have hn1 : h1.Ns ce.locals m := hn'.upToSlots up1
  have hBC : (PySem.W.hideAll B [ce.locals]).get? ce.locals = none := PySem.W.hideAll_none _ (by simp)
  obtain ⟨b1, b0, f1, oe, vs, T, oT, ts, he, hz, hd, h1', hnT, hTe, hT, hdT, h3⟩ := hh
  have g2 : ∀ b o, h1.get? b = some o → b ≠ ce.locals → h2.get? b = some o := fun b o e n => (sb.2 b n).trans e
  have hh2 : HandSPX.HeldZ (PySem.W.hideAll B [ce.locals]) (X.env :: X.outer) a0 (Zc cls d) X.env.locals h2 :=
    ⟨fun b o hb => g2 b o (b1 b o hb) (fun q => by rw [q, hBC] at hb; cases hb), b0, Heap.FunFrames.sameBut sb hn2 f1,
      oe, vs, T, oT, ts, g2 _ _ he (noRec hn1 he hd), hz, hd, h1', hnT, hTe, g2 _ _ hT (noRec hn1 hT hdT), hdT, h3⟩
  unfold PySem.passOn
  refine wpAny_bind (wpAny_field (g2 _ _ he (noRec hn1 he hd)) hd h1' ?_)
  rw [if_neg (show ¬ ((Value.ref T == Value.none) = true) from by simp)]
  rw [hcf, hf]
  have fin : wpAny (model X.prog X.w) X.A (setFlight (.ref a0) (some X.env.locals)) (fun _ s4 => wpAny (model X.prog X.w) X.A (throw (.ref a0) : Sem Value) (fun _ _ => False) X.xe s4) X.xe { s' with heap := h2 } := by
    refine HandSPX.setFlight_onZ hh2 fun h4 hh4 up4 => wpAny_throw (tk _ _ ?_)
    refine ⟨a0, PySem.W.hideAll B [ce.locals], _, pins, σ, H', cls, d, rfl, J, fun b o e hb => ?_, fun b o e nf => ?_, .inr (.inr (by rw [hs]; exact hh4)), na, os, ag, w⟩
    · have n : b ≠ ce.locals := fun z => by rw [z, PySem.W.hideAll_none _ (by simp)] at e; cases e
      exact PySem.W.hideAll_get _ (nb b o (PySem.W.of_hideAll _ e) hb) (by simpa using n)
    · have n : b ≠ ce.locals := fun z => by rw [z, PySem.W.hideAll_none _ (by simp)] at e; cases e
      obtain ⟨s1, e1⟩ := up b o (PySem.W.of_hideAll _ e) nf
      obtain ⟨s2, e2⟩ := up1 b _ e1 nf
      obtain ⟨s4, e4⟩ := up4 b _ (g2 b _ e2 n) nf
      exact ⟨s4, e4⟩
  first
    | exact wpAny_bind (wpAny_pure (wpAny_bind fin))
    | exact wpAny_bind fin
end
end Ev

set_option Elab.async false
set_option linter.all false
set_option maxRecDepth 100000
set_option autoImplicit false
/-! Ev12: list comprehensions: the walk (after HandS.Comp's lc_core, with a block that may raise). -/
namespace Ev
open PySem PySem.Spec PyProof.Rows L2
open He (ga ma)

section
variable {X : Cx}
/-- HandS.Comp's tLc, the new list new in the written part too -/
def tLcK (K : PySem.W.Frag) (wi : TI) (g : TG) (tt : TT) (te : TE) (vs : List Nat) : TE := fun σ H Q => wi σ H fun J H1 => ∀ D, H1 D = none → K.lookup D = none → ∃ W : Nat → Nat → Hp → Prop, (∃ m, W 0 m (upd H1 D (.lst []))) ∧ ∀ i m H, W i m H →
  (J.stop i H ∧ Q (.ref D) H) ∨ (J.go i H ∧ ∃ Nx : Hp → Prop, (∀ H', Nx H' → ∃ m', m' < m ∧ W (i + 1) m' H') ∧ ∀ x H', J.yld i H x H' → g x (L2.wipe σ vs) H' fun σ2 H2 => L2.wipe σ2 vs = L2.wipe σ vs ∧ tt σ2 H2 fun b H3 =>
    if b = true then te σ2 H3 fun y H4 => ∃ acc, H4 D = some (.lst acc) ∧ acc.length < sizeLine ∧ Nx (upd H4 D (.lst (acc ++ [y]))) else Nx H3)
/-- what a context lets callees throw -/
abbrev Lets (X : Cx) (W : WX) : Prop := ∀ σ', PassesAt (L2.CX X.prog X.w) X σ' (WE W σ')
theorem lcx_core {W : WX} {pins : List (Addr × Obj)} {s : Shared} {σ : L2.St} {H : Hp} {Q : VK} {elt tg iter : Expr} {ifs : List Expr} {scope : Scope} {own : List (Str × Nat)} {pos pos' : Pos} {wi : TI} {g : TG} {tt : WX → TT} {te : WX → TE} {use : Option (Value → Sem Unit)} {Qf : Value → Shared → Prop}
    (hc : X.calm = true) (hN : X.N.Nodup) (tk : Takes X W) (hst : X.stack = X.env :: X.outer) (hfm : X.env.frame = some X.env.locals) (I : Inv X pins σ H s) (hi : PI X tg iter wi) (ok : BlkOk X.N X.env.scope scope own)
    (hg : ∀ (s : Shared) (H : Hp) (C : Addr) (cl : List (Str × Addr)) (fp : List Addr), PG (blx X s H scope (compEnvC scope cl C X.env) fp) tg g)
    (ht : ∀ (s : Shared) (H : Hp) (C : Addr) (cl : List (Str × Addr)) (fp : List Addr) (W' : WX), Lets (blx X s H scope (compEnvC scope cl C X.env) fp) W' → PTs (blx X s H scope (compEnvC scope cl C X.env) fp) ifs (tt W'))
    (he : ∀ (s : Shared) (H : Hp) (C : Addr) (cl : List (Str × Addr)) (fp : List Addr) (W' : WX), Lets (blx X s H scope (compEnvC scope cl C X.env) fp) W' → PE (blx X s H scope (compEnvC scope cl C X.env) fp) elt (te W'))
    (hs : ∀ x, foldedSetIterable iter X.env x = pure x)
    (h : tLcK X.K wi g (tt fun cls d _ H => W cls d σ H) (te fun cls d _ H => W cls d σ H) (own.map (·.2)) σ H Q)
    (hRR : ∀ D ce s' m H', Inv X pins σ H' s' → Q (.ref D) H' → s'.heap.Ns ce.locals m → FpOk X pins H' ce.locals → compEnds (model X.prog X.w) X.A X.xe use Qf (.ref D) ce (.ok .next) s') :
    wpAny (model X.prog X.w) X.A (comprehension (.ListComp elt [⟨tg, iter, ifs, 0⟩] scope pos) scope X.env pos' (PySem.newList []) false (eval iter X.env) use) Qf X.xe s := by
  have hfree : ∀ y ∈ scope.names, y.2 = .free → ∃ c, X.env.cells.lookup y.1 = some c := fun y hy e =>
    (ok.free y hy e).elim (fun k => I.ok.has _ (.inl k)) fun k => I.ok.has _ (.inr k)
  refine comprehension_at (use := use) rfl hs (closure_ok hfree) ok.kind (fun y hy e => by rw [ok.uniq y hy, e])
    (thn (hi.run pins s σ H _ I h) fun xv s1 hx => thn hx fun itv s2 h2 => ?_)
  obtain ⟨it, fp, tn, J, H2, e, I2, T, st2, f2, q⟩ := h2
  subst e
  refine wpAny_newObj_type (newEnv_comp ?_) (by show 0 ≤ sizeLine; decide)
  generalize hD : s2.heap.objs.size = D
  have hDn : H2 D = none := I2.hok.fresh (Nat.le_of_eq hD)
  have hDk : X.K.lookup D = none := by
    cases z : X.K.lookup D with
    | none => rfl
    | some o =>
      have := Heap.lt_size (I2.kIn _ o z)
      rw [hD] at this
      exact absurd this (Nat.lt_irrefl _)
  obtain ⟨Wv, ⟨m0, w0⟩, turn⟩ := q D hDn hDk
  generalize hs3 : ({ s2 with heap := s2.heap.push { cls := .type "list", data := .seq ([] : List Value).toArray } } : Shared) = s3
  have h3 : s3.heap = s2.heap.push { cls := .type "list", data := .seq ([] : List Value).toArray } := by rw [← hs3]
  have I3 : Inv X pins σ (upd H2 D (.lst [])) s3 := by
    rw [← hs3]
    exact I2.laid (t' := s2.toks) (fun b o e => Heap.get?_push_of_some _ e) (Nat.le_of_eq hD) ⟨Nat.zero_le _, [], 0, .nil, by rw [← hD]; exact Heap.get?_push_size _ rfl⟩
  have f3 : ∀ b ∈ fp, FpOk X pins (upd H2 D (.lst [])) b ∧ b < s3.heap.objs.size := fun b hb => by
    obtain ⟨o, eo, _⟩ := T.obj _ _ st2 b hb
    have hlt := Heap.lt_size eo
    exact ⟨⟨by rw [upd_ne (by rw [← hD]; exact Nat.ne_of_lt hlt)]; exact (f2 b hb).1, (f2 b hb).2⟩, by rw [h3, Heap.size_push]; exact Nat.lt_succ_of_lt hlt⟩
  have st3 : tn 0 s3.heap := T.keep _ _ _ st2 fun b _ o e => by rw [h3]; exact Heap.get?_push_of_some _ e
  have I4 := block_start I3 ok hN f3
  show codeAny _ _ (.compStart (.ListComp elt [⟨tg, iter, ifs, 0⟩] scope pos) 0 (.ref it) (.ref D) (compEnvC scope (cellsFrom (s3.heap.objs.size + 1) scope.names (cloFrom X.env.cells scope.names [])) s3.heap.objs.size X.env)) (compEnds (model X.prog X.w) X.A X.xe use Qf (.ref D) (compEnvC scope (cellsFrom (s3.heap.objs.size + 1) scope.names (cloFrom X.env.cells scope.names [])) s3.heap.objs.size X.env)) { s3 with heap := pushCells (s3.heap.push { cls := .type "dict", data := .dict #[] }) scope.names }
  have nfp : ∀ b ∈ fp, (upd H2 D (.lst [])) b = none := fun b hb => (f3 b hb).1.1
  have ff : ∀ b ∈ fp, FpOk X pins (upd H2 D (.lst [])) b := fun b hb => (f3 b hb).1
  have lets : Lets (blx X s3 (upd H2 D (.lst [])) scope (compEnvC scope (cellsFrom (s3.heap.objs.size + 1) scope.names (cloFrom X.env.cells scope.names [])) s3.heap.objs.size X.env) fp) (fun cls d _ H => W cls d σ H) :=
    fun σ' => pass_blk (ce := compEnvC scope (cellsFrom (s3.heap.objs.size + 1) scope.names (cloFrom X.env.cells scope.names [])) s3.heap.objs.size X.env) tk hst hfm rfl I3 (Nat.le_refl _) ff σ'
  have pg := hg s3 (upd H2 D (.lst [])) s3.heap.objs.size (cellsFrom (s3.heap.objs.size + 1) scope.names (cloFrom X.env.cells scope.names [])) fp
  have pt := ht s3 (upd H2 D (.lst [])) s3.heap.objs.size (cellsFrom (s3.heap.objs.size + 1) scope.names (cloFrom X.env.cells scope.names [])) fp _ lets
  have pe := he s3 (upd H2 D (.lst [])) s3.heap.objs.size (cellsFrom (s3.heap.objs.size + 1) scope.names (cloFrom X.env.cells scope.names [])) fp _ lets
  clear lets
  generalize hce : compEnvC scope (cellsFrom (s3.heap.objs.size + 1) scope.names (cloFrom X.env.cells scope.names [])) s3.heap.objs.size X.env = ce at I4 pg pt pe ⊢
  have cL : ce.locals = s3.heap.objs.size := by subst hce; rfl
  generalize hH3 : upd H2 D (.lst []) = H3 at I3 I4 pg pt pe w0 nfp f3 ff
  generalize hs4 : ({ s3 with heap := pushCells (s3.heap.push { cls := .type "dict", data := .dict #[] }) scope.names } : Shared) = s4 at I4 ⊢
  have st4 : tn 0 s4.heap := T.keep _ _ _ st3 fun b _ o e => by rw [← hs4]; exact pushCells_keeps _ _ _ _ (Heap.get?_push_of_some _ e)
  have I4 : Inv (blx X s3 H3 scope ce fp) [] (L2.wipe σ (own.map (·.2))) H3 s4 := I4.toTry _
  have stat : ∀ {σ' : L2.St} {H' : Hp} {s' : Shared}, Inv (blx X s3 H3 scope ce fp) [] σ' H' s' → (∀ b ∈ fp, H' b = none) → ∀ b ∈ fp, FpOk (blx X s3 H3 scope ce fp) [] H' b := fun {σ' H' s'} I' hn b hb =>
    ⟨hn b hb, (I'.ok.exf b hb).1, I'.ok.exfs b hb, .inl hb, fun x c e => (I'.ok.exf b hb).2 x c e, fun p hp => absurd (show p ∈ ([] : List (Addr × Obj)) ++ [] from hp) (by simp)⟩
  have xe_eq : (blx X s3 H3 scope ce fp).xe = notedBy (model X.prog X.w) X.A ce (fun e s' => compEnds (model X.prog X.w) X.A X.xe use Qf (.ref D) ce (.error e) s') := by cases use <;> rfl
  have up : ∀ {α : Type} {t : Sem α} {P P' : α → Shared → Prop} {s : Shared}, wpAny (model X.prog X.w) X.A t P (blx X s3 H3 scope ce fp).xe s → (∀ a s', P a s' → P' a s') → wpAny (model X.prog X.w) X.A t P' (notedBy (model X.prog X.w) X.A ce (fun e s' => compEnds (model X.prog X.w) X.A X.xe use Qf (.ref D) ce (.error e) s')) s := fun {α t P P' s} x k => by
    rw [xe_eq] at x
    exact thn x k
  have loop : codeAny (model X.prog X.w) X.A (.compLoop (.ListComp elt [⟨tg, iter, ifs, 0⟩] scope pos) 0 (.ref it) (.ref D) ce) (compEnds (model X.prog X.w) X.A X.xe use Qf (.ref D) ce) s4 := by
    refine compLoop_any (fun n s' => ∃ i H', Inv (blx X s3 H3 scope ce fp) [] (L2.wipe σ (own.map (·.2))) H' s' ∧ tn i s'.heap ∧ (∀ b ∈ fp, H' b = none) ∧ Wv i n H') ?_ m0 ⟨0, H3, I4, st4, nfp, w0⟩
    rintro n s5 ⟨i, H5, I5, st5, n5, w5⟩
    rcases turn i n H5 w5 with ⟨stop, qq⟩ | ⟨go, Nx, hNx, step⟩
    · have td := T.done (blx X s3 H3 scope ce fp) rfl rfl rfl hc i [] s5 _ H5 (fun _ _ => False) I5 (stat I5 n5) st5 stop
      refine thnF td fun r s6 ⟨hr, I6⟩ => ?_
      subst hr
      have I7 : Inv X pins σ H5 s6 := I3.call' (ch := fp) I6.os I6.base I6.hok I6.bare fun b hb => ⟨(ff b hb).2.2.2.1, (ff b hb).2.1, (ff b hb).2.2.2.2.1, (ff b hb).2.2.2.2.2⟩
      have nC : H5 ce.locals = none := I6.free
      obtain ⟨m, hn, _⟩ := I6.loc
      exact hRR D ce s6 m H5 I7 qq hn (I3.fpOk (by rw [cL]; exact Nat.le_refl _) nC)
    · have ti := T.item (blx X s3 H3 scope ce fp) rfl rfl rfl hc i [] s5 _ H5 (fun _ _ => False) I5 (stat I5 n5) st5 go
      refine thnF ti fun r s6 ⟨u, hr, h6⟩ => ?_
      subst hr
      refine thnF h6 fun _ s7 ⟨x, H7, I7, r7, y7, st7, n7⟩ => ?_
      have I7' := I7.pinned (stat I7 n7) (T.obj _ _ st7)
      refine up (pg.run _ s7 _ H7 x u _ I7' r7 (step x H7 y7)) fun _ s8 ⟨σ8, H8, I8, hw8, q8⟩ => ?_
      refine up (pt.run _ s8 σ8 H8 _ I8 q8) fun b s9 ⟨H9, I9, q9⟩ => ?_
      have fin : ∀ {s' : Shared} {H' : Hp}, Inv (blx X s3 H3 scope ce fp) ([] ++ pinsAt fp s7.heap) σ8 H' s' → Nx H' → ∃ m, m < n ∧ ∃ i H', Inv (blx X s3 H3 scope ce fp) [] (L2.wipe σ (own.map (·.2))) H' s' ∧ tn i s'.heap ∧ (∀ b ∈ fp, H' b = none) ∧ Wv i m H' := fun {s' H'} I' nx => by
        obtain ⟨m', hm, w'⟩ := hNx H' nx
        have pin' : ∀ b ∈ fp, ∀ o, s7.heap.get? b = some o → s'.heap.get? b = some o ∧ H' b = none := fun b hb o e =>
          let z := I'.pin (b, o) (List.mem_append_right _ (List.mem_append_right _ (mem_pinsAt hb e)))
          ⟨z.1, z.2.1⟩
        refine ⟨m', hm, i + 1, H', (I'.unpinned (pins := [])).weak (by rw [← hw8, L2.wipe_length]) (fun j v e => by rw [← hw8] at e; exact (wipe_some e).1), T.keep _ _ _ st7 fun b hb o e => (pin' b hb o e).1, fun b hb => ?_, w'⟩
        obtain ⟨o, e, _⟩ := T.obj _ _ st7 b hb
        exact (pin' b hb o e).2
      cases b with
      | false =>
        simp only [Bool.false_eq_true, if_false] at q9 ⊢
        exact fin I9 q9
      | true =>
        simp only [if_true] at q9 ⊢
        refine up (pe.run _ s9 σ8 H9 _ I9 q9) fun z s10 ⟨yv, H10, I10, r10, acc, hD10, hz10, nx⟩ => ?_
        exact app_ok (X := blx X s3 H3 scope ce fp) I10 hD10 hz10 r10 fun s11 I11 => fin I11 nx
  exact codeAny_compStart_list loop (T.self X.A 0 _ _ _ st4 loop)
variable {W : WX} {elt tg iter : Expr} {ifs : List Expr} {scope : Scope} {own : List (Str × Nat)} {pos : Pos} {wi : TI} {g : TG} {tt : WX → TT} {te : WX → TE}
/-- .. as a value -/
theorem pe_lcx (hc : X.calm = true) (hN : X.N.Nodup) (tk : Takes X W) (hst : X.stack = X.env :: X.outer) (hfm : X.env.frame = some X.env.locals) (hi : PI X tg iter wi) (ok : BlkOk X.N X.env.scope scope own)
    (hg : ∀ (s : Shared) (H : Hp) (C : Addr) (cl : List (Str × Addr)) (fp : List Addr), PG (blx X s H scope (compEnvC scope cl C X.env) fp) tg g)
    (ht : ∀ (s : Shared) (H : Hp) (C : Addr) (cl : List (Str × Addr)) (fp : List Addr) (W' : WX), Lets (blx X s H scope (compEnvC scope cl C X.env) fp) W' → PTs (blx X s H scope (compEnvC scope cl C X.env) fp) ifs (tt W'))
    (he : ∀ (s : Shared) (H : Hp) (C : Addr) (cl : List (Str × Addr)) (fp : List Addr) (W' : WX), Lets (blx X s H scope (compEnvC scope cl C X.env) fp) W' → PE (blx X s H scope (compEnvC scope cl C X.env) fp) elt (te W'))
    (hs : ∀ x, foldedSetIterable iter X.env x = pure x) :
    PE X (.ListComp elt [⟨tg, iter, ifs, 0⟩] scope pos) (fun σ => tLcK X.K wi g (tt fun cls d _ H => W cls d σ H) (te fun cls d _ H => W cls d σ H) (own.map (·.2)) σ) := by
  refine ⟨fun pins s σ H Q I h => ?_⟩
  rw [eval_ListComp]
  refine lcx_core hc hN tk hst hfm I hi ok hg ht he hs h fun D ce s' m H' I' q hn f => ⟨m, hn, fun h'' sb => ?_⟩
  obtain ⟨f0, f1, f2, f3, f4, f5⟩ := f
  exact ⟨.ref D, H', I'.turned (t' := s'.toks) (fun b o hb e => (sb.2 b hb).trans e) f0 f1 f3 f4 f5, rfl, q⟩
/-- name = [..] -/
theorem ps_setLcx {i : Nat} {y : Str} {py spos : Pos} (hc : X.calm = true) (hN : X.N.Nodup) (hy : X.N[i]? = some y) (hyl : X.env.scope.names.lookup y = some .local)
    (hsw : swapsWith (.ListComp elt [⟨tg, iter, ifs, 0⟩] scope pos) (some (.Name y py)) spos.line X.env = pure true) (tk : Takes X W) (hst : X.stack = X.env :: X.outer) (hfm : X.env.frame = some X.env.locals) (hi : PI X tg iter wi) (ok : BlkOk X.N X.env.scope scope own)
    (hg : ∀ (s : Shared) (H : Hp) (C : Addr) (cl : List (Str × Addr)) (fp : List Addr), PG (blx X s H scope (compEnvC scope cl C X.env) fp) tg g)
    (ht : ∀ (s : Shared) (H : Hp) (C : Addr) (cl : List (Str × Addr)) (fp : List Addr) (W' : WX), Lets (blx X s H scope (compEnvC scope cl C X.env) fp) W' → PTs (blx X s H scope (compEnvC scope cl C X.env) fp) ifs (tt W'))
    (he : ∀ (s : Shared) (H : Hp) (C : Addr) (cl : List (Str × Addr)) (fp : List Addr) (W' : WX), Lets (blx X s H scope (compEnvC scope cl C X.env) fp) W' → PE (blx X s H scope (compEnvC scope cl C X.env) fp) elt (te W'))
    (hs : ∀ x, foldedSetIterable iter X.env x = pure x) :
    PS X (.Assign [.Name y py] (.ListComp elt [⟨tg, iter, ifs, 0⟩] scope pos) spos) (tAsg (fun σ => tLcK X.K wi g (tt fun cls d _ H => W cls d σ H) (te fun cls d _ H => W cls d σ H) (own.map (·.2)) σ) (gName i)) := by
  refine ⟨fun pins s σ H D I h => ?_⟩
  rw [exec_Assign_Name_used _ _ _ _ hsw]
  refine wpAny_bind (wpAny_standAt (wpAny_bind ?_))
  show wpAny _ X.A (do let _ ← comprehension (.ListComp elt [⟨tg, iter, ifs, 0⟩] scope pos) scope X.env (firstIterPos [⟨tg, iter, ifs, 0⟩] pos) (PySem.newList []) false (eval iter X.env) (some (assign (.Name y py) X.env))) _ _ s
  have h : tLcK X.K wi g (tt fun cls d _ H => W cls d σ H) (te fun cls d _ H => W cls d σ H) (own.map (·.2)) σ H (fun x H1 => gName i x σ H1 D.nx) := h
  refine wpAny_bind (thn (lcx_core (Qf := fun _ s' => SP X pins D .next s') hc hN tk hst hfm I hi ok hg ht he hs h fun L ce s' m H' I' q hn f => ?_) fun _ s' hq => wpAny_pure (wpAny_pure hq))
  show wpAny _ _ (assign (.Name y py) X.env (.ref L)) _ _ _
  refine wpAny_assign_Name (store_ok2 (v := V.ref L) I' hN hy (.inl hyl) rfl (fun s2 I2 ⟨a, sb, ha⟩ => ?_) (.inr hyl))
  obtain ⟨f0, f1, f2, f3, f4, f5⟩ := f
  have haC : ce.locals ≠ a := ha.elim (fun z => by rw [z]; exact f1) fun z e => f4 y a z e.symm
  exact ⟨m, hn.sameBut sb haC, fun h3 sb3 => ⟨_, H', I2.turned (t' := s2.toks) (fun b o hb e => (sb3.2 b hb).trans e) f0 f1 f3 f4 f5, q⟩⟩
end
end Ev

set_option Elab.async false
set_option linter.all false
set_option maxRecDepth 100000
set_option autoImplicit false
/-! Ev13: list comprehensions: what the evaluator gives meets the walk. -/
namespace Ev
open PySem PySem.Spec PyProof.Rows L2
open He (ga ma)

/-! ### the heap without the new list -/
def er (p : Addr) (H : Hp) : Hp := fun a => if a = p then none else H a
section
variable {K : PySem.W.Frag} {ι ι' ι1 ι2 : List Addr} {H H' H1 H2 : Hp} {h : Hb} {p : Addr}
theorem er_self : er p H p = none := if_pos rfl
theorem er_ne {a : Addr} (n : a ≠ p) : er p H a = H a := if_neg n
theorem er_some {a : Addr} {o : HO} (e : er p H a = some o) : H a = some o ∧ a ≠ p := by
  by_cases n : a = p
  · subst n; rw [er_self] at e; cases e
  · exact ⟨by rw [er_ne n] at e; exact e, n⟩
theorem er_upd {u : HO} : er p (upd H p u) = er p H := by
  funext a
  by_cases n : a = p
  · subst n; rw [er_self, er_self]
  · rw [er_ne n, er_ne n, upd_ne n]
theorem er_fresh (e : H p = none) : er p H = H := by
  funext a
  by_cases n : a = p
  · subst n; rw [er_self, e]
  · rw [er_ne n]
theorem upd_er {u : HO} (e : H p = some u) : upd (er p H) p u = H := by
  funext a
  by_cases n : a = p
  · subst n; rw [upd_same, e]
  · rw [upd_ne n, er_ne n]
theorem Mo.er : Mo K ι (er p H) ι H := ⟨fun _ _ e => e, fun a vs e => (er_some e).1, fun a o vs e => (er_some e).1⟩
theorem Mo.to_er {vs : List V} (e : H p = some (.lst vs)) : Mo K ι H ι (Ev.er p H) :=
  ⟨fun _ _ e => e, fun a us q => by rw [er_ne (fun z => by rw [z, e] at q; cases q)]; exact q, fun a o us q => by rw [er_ne (fun z => by rw [z, e] at q; cases q)]; exact q⟩
theorem Ext.er (x : Ext K ι H ι2 H2) : Ext K ι (er p H) ι2 (er p H2) := by
  refine ⟨⟨x.pre, fun a vs e => ?_, fun a o vs e => ?_⟩, fun a o n e => ?_, fun a o u e => ?_⟩
  · obtain ⟨e1, n⟩ := er_some e; rw [er_ne n]; exact x.tups _ _ e1
  · obtain ⟨e1, n⟩ := er_some e; rw [er_ne n]; exact x.lsts _ _ _ e1
  · obtain ⟨e1, n'⟩ := er_some e; rw [er_ne n']; exact x.frame _ _ n e1
  · obtain ⟨e1, n⟩ := er_some e; rw [er_ne n]; exact x.frzs _ _ _ e1
theorem Ext.er_out (x : Ext K ι1 H1 ι2 (Ev.er p H2)) : Ext K ι1 H1 ι2 H2 :=
  ⟨x.toMo.trans Mo.er, fun a o n e => ⟨(er_some (x.frame a o n e).1).1, (x.frame a o n e).2⟩, fun a o u e => (er_some (x.frzs a o u e)).1⟩
theorem Sim.er {J : It} {L : L2.It} (s : Sim K ι (er p H) J L) : Sim K ι H J L := by
  cases J with
  | tup ds =>
    rcases s with ⟨a, vs, e, r, q⟩ | ⟨d, od, ws, e, r, q⟩
    · exact .inl ⟨a, vs, e.imp (fun z => (er_some z).1) id, r.mo Mo.er, q⟩
    · exact .inr ⟨d, od, ws, (er_some e).1, r.mo Mo.er, q⟩
  | _ => exact s
theorem Sim.to_er {vs : List V} {J : It} {L : L2.It} (e0 : H p = some (.lst vs)) (s : Sim K ι H J L) : Sim K ι (Ev.er p H) J L := by
  have ne : ∀ {a : Addr} {o : HO}, H a = some o → (∀ xs, o ≠ .lst xs) → a ≠ p := fun {a o} q n z => by
    rw [z, e0] at q; cases q; exact n _ rfl
  cases J with
  | tup ds =>
    rcases s with ⟨a, us, e, r, q⟩ | ⟨d, od, ws, e, r, q⟩
    · exact .inl ⟨a, us, e.imp (fun z => by rw [er_ne (ne z (by simp))]; exact z) id, r.mo (Mo.to_er e0), q⟩
    · exact .inr ⟨d, od, ws, by rw [er_ne (ne e (by simp))]; exact e, r.mo (Mo.to_er e0), q⟩
  | _ => exact s

/-! ### slots of a block -/
theorem wipe_rn {ρ : En} {σ : L2.St} (hn : Rn K ι H ρ σ) : ∀ vs : List Nat, Rn K ι H (Ev.wipe ρ vs) (L2.wipe σ vs)
  | [] => hn
  | v :: vs => by
    have ih := wipe_rn hn vs
    refine ⟨by simp [Ev.wipe, L2.wipe, ih.len], fun j d e => ?_⟩
    simp only [Ev.wipe, L2.wipe] at e ⊢
    by_cases hj : v = j
    · subst hj
      have hl := (List.getElem?_eq_some_iff.mp e).1
      simp at hl
      rw [List.getElem?_set_self hl] at e
      cases e
    · rw [List.getElem?_set_ne hj] at e ⊢
      exact ih.at_ j d e
theorem wipe_in {σ : L2.St} {j : Nat} : ∀ {vs : List Nat}, j ∈ vs → j < σ.length → (L2.wipe σ vs)[j]? = some none
  | [], h, _ => by simp at h
  | v :: vs, h, hl => by
    show ((L2.wipe σ vs).set v none)[j]? = some none
    by_cases hv : v = j
    · subst hv
      rw [List.getElem?_set_self (by rw [L2.wipe_length]; exact hl)]
    · rw [List.getElem?_set_ne hv]
      exact wipe_in (by simpa [Ne.symm hv] using h) hl
theorem wipe_eq {σ σ2 : L2.St} {vs : List Nat} (hl : σ2.length = σ.length) (h : ∀ j, j ∉ vs → σ2[j]? = σ[j]?) : L2.wipe σ2 vs = L2.wipe σ vs := by
  apply List.ext_getElem?
  intro j
  by_cases hj : j ∈ vs
  · by_cases hlt : j < σ.length
    · rw [wipe_in hj hlt, wipe_in hj (by omega)]
    · rw [List.getElem?_eq_none (by rw [L2.wipe_length]; omega), List.getElem?_eq_none (by rw [L2.wipe_length]; omega)]
  · rw [wipe_out hj, wipe_out hj]; exact h j hj
end

section
variable {K : PySem.W.Frag} {F : Fn} {W : WX}
/-- a part of the block: an exception of it is the block's -/
theorem bndD {α β γ : Type} {r1 : RO α} {f : α → Hb → RO γ} {r : Res γ} {Rel1 : List Addr → Hp → α → β → Prop} {Q1 : β → Hp → Prop} {Qx : XK} {ι : List Addr} {H : Hp} (e : bnd r1 f = some r)
    (hx : ∀ c fs h2, r = .exc c fs h2 → ∀ ι2 H2 cls d, Ext K ι H ι2 H2 → R K ι2 h2 H2 → RX K ι2 H2 c fs cls d → Qx cls d H2)
    (h : ∀ (a : α) (h1 : Hb), r1 = some (.ok a h1) → f a h1 = some r → ∀ (ι' : List Addr) (H' : Hp) (b : β), Ext K ι H ι' H' → R K ι' h1 H' → Rel1 ι' H' a b → Q1 b H') :
    ∃ r', r1 = some r' ∧ Good K ι H r' Rel1 Q1 Qx := by
  cases r1 with
  | none => simp [bnd] at e
  | some r' =>
    refine ⟨r', rfl, ?_⟩
    cases r' with
    | ok a h1 => exact fun ι' H' b x hR rel => h a h1 rfl e ι' H' b x hR rel
    | exc c fs h1 => simp only [bnd] at e; exact hx c fs h1 (Option.some.inj e).symm

/-- the state of a block's loop -/
def CS (K : PySem.W.Frag) (ι1 : List Addr) (H1 : Hp) (p : Addr) (H : Hp) (ι' : List Addr) (h' : Hb) (acc : List D) : Prop :=
  Ext K ι1 H1 ι' (er p H) ∧ p ∉ ι' ∧ R K ι' h' H ∧ ∃ vs, H p = some (.lst vs) ∧ Rvs K ι' H acc vs
theorem CS.step {ι1 ι' ι2 : List Addr} {H1 H H2 : Hp} {p : Addr} {h' h2 : Hb} {acc : List D} (s : CS K ι1 H1 p H ι' h' acc) (x : Ext K ι' H ι2 H2) (hR : R K ι2 h2 H2) : CS K ι1 H1 p H2 ι2 h2 acc := by
  obtain ⟨a, b, c, vs, d, e⟩ := s
  obtain ⟨f1, f2⟩ := x.frame p _ b d
  exact ⟨a.trans x.er, f2, hR, vs, f1, e.mo x.toMo⟩
theorem CS.push {ι1 ι' : List Addr} {H1 H : Hp} {p : Addr} {h' : Hb} {acc : List D} {d : D} {v : V} (s : CS K ι1 H1 p H ι' h' acc) (r : Rv K ι' H d v) : ∃ vs, H p = some (.lst vs) ∧ vs.length = acc.length ∧ CS K ι1 H1 p (upd H p (.lst (vs ++ [v]))) ι' h' (acc ++ [d]) := by
  obtain ⟨a, b, c, vs, e, q⟩ := s
  have m : Mo K ι' H ι' (upd H p (.lst (vs ++ [v]))) := ⟨fun _ _ e => e, fun a us z => sqT_upd z (by rw [e]; simp), fun a o us z => frl_upd z (by rw [e]; simp)⟩
  refine ⟨vs, e, q.length.symm, by rw [er_upd]; exact a, b, ⟨c.len, fun n o a e1 e2 => ?_, c.inj⟩, _, upd_same, (q.append (.one r)).mo m⟩
  refine Ro.mo m (fun us z => sqF_upd z (by rw [e]; simp)) (fun _ => upd_ne fun z => b (by rw [← z]; exact List.mem_of_getElem? e2)) (c.obj n o a e1 e2)
theorem CS.exc {ι1 ι' ι2 : List Addr} {H1 H H2 : Hp} {p : Addr} {h' : Hb} {acc : List D} (s : CS K ι1 H1 p H ι' h' acc) (x : Ext K ι' H ι2 H2) : Ext K ι1 H1 ι2 H2 := (s.1.trans x.er).er_out
theorem CS.start {ι1 : List Addr} {H1 : Hp} {p : Addr} {h1 : Hb} (hR : R K ι1 h1 H1) (hp : H1 p = none) : CS K ι1 H1 p (upd H1 p (.lst [])) ι1 h1 [] := by
  have m : Mo K ι1 H1 ι1 (upd H1 p (.lst [])) := ⟨fun _ _ e => e, fun a vs e => sqT_upd e (by rw [hp]; simp), fun a o vs e => frl_upd e (by rw [hp]; simp)⟩
  exact ⟨by rw [er_upd, er_fresh hp]; exact Ext.refl, hR.notin hp, hR.fresh hp m, [], upd_same, .nil⟩
/-- the block's end -/
theorem CS.done {ι1 ι' : List Addr} {H1 H : Hp} {p : Addr} {h' : Hb} {acc : List D} {r : Res D} {Q : VK} {Qx : XK} (s : CS K ι1 H1 p H ι' h' acc) (hp : H1 p = none) (hι : p ∉ ι1) (e : newList acc h' = some r) (g : Good K ι1 H1 r (RelE K) Q Qx) : Q (.ref p) H := by
  obtain ⟨a, b, c, vs, d, q⟩ := s
  unfold newList at e
  cases e
  have xa : Ext K ι1 H1 (ι' ++ [p]) (upd (er p H) p (.lst vs)) := Ext.adopt (w := .lst []) hp hι (by simp) (by simp) a fun _ _ => rfl
  have ra : R K (ι' ++ [p]) (h' ++ [.lst acc]) (upd H p (.lst vs)) := c.adopt b d (by simp) (by simp) rfl ⟨vs, upd_same, q.mo (Mo.adopt d (by simp) (by simp))⟩
  have eH : upd H p (.lst vs) = H := by
    funext z
    by_cases n : z = p
    · subst n; rw [upd_same, d]
    · rw [upd_ne n]
  rw [upd_er d] at xa
  rw [eH] at ra
  refine g (ι' ++ [p]) H (.ref p) xa ra (.ref ?_)
  rw [← c.len, List.getElem?_append_right (Nat.le_refl _)]
  simp

theorem comp_turns {g : Tg} {c : Tx} {e : Ex} {σ : L2.St} {ρ : En} {Q : VK} {J : It} {L : L2.It} {ι1 : List Addr} {H1 : Hp} {h1 : Hb} {r : Res D} {Wb : WX} (he1 : bnd (compLoop J g (evT F c) (evE F e) (Ev.wipe ρ g.slots) (J.size h1 + 1) 0 [] h1) (fun ds h2 => newList ds h2) = some r)
    (hR1 : R K ι1 h1 H1) (hn : Rn K ι1 H1 ρ σ) (sim : Sim K ι1 H1 J L) (g1 : Good K ι1 H1 r (RelE K) Q (fun cls d H' => W cls d σ H')) (hWb : ∀ c fs h2, r = .exc c fs h2 → ∀ σ2 cls d H, W cls d σ H → Wb cls d σ2 H) :
    ∀ p, H1 p = none → ∃ Wv : Nat → Nat → Hp → Prop, (∃ m, Wv 0 m (upd H1 p (.lst []))) ∧ ∀ i m H, Wv i m H →
      (L.stop i H ∧ Q (.ref p) H) ∨ (L.go i H ∧ ∃ Nx : Hp → Prop, (∀ H', Nx H' → ∃ m', m' < m ∧ Wv (i + 1) m' H') ∧ ∀ x H', L.yld i H x H' → rTg K g x (L2.wipe σ g.slots) H' fun σ2 H2 => L2.wipe σ2 g.slots = L2.wipe σ g.slots ∧ tT K F Wb c σ2 H2 fun b H3 =>
        if b = true then tE K F Wb e σ2 H3 fun y H4 => ∃ acc, H4 p = some (.lst acc) ∧ acc.length < sizeLine ∧ Nx (upd H4 p (.lst (acc ++ [y]))) else Nx H3) := by
  intro p hp
  have hι := hR1.notin hp
  have hn1 := wipe_rn hn g.slots
  refine ⟨fun i m H' => ∃ ι' h' acc, CS K ι1 H1 p H' ι' h' acc ∧ bnd (compLoop J g (evT F c) (evE F e) (Ev.wipe ρ g.slots) m i acc h') (fun ds h2 => newList ds h2) = some r, ⟨_, ι1, h1, [], CS.start hR1 hp, he1⟩, ?_⟩
  rintro i m H' ⟨ι', h', acc, cs, ev⟩
  have sim' : Sim K ι' H' J L := (sim.ext cs.1).er
  cases m with
  | zero => simp [compLoop, bnd] at ev
  | succ m =>
    simp only [compLoop] at ev
    cases ea : J.at h' i with
    | none => rw [ea] at ev; simp [bnd] at ev
    | some od =>
      rw [ea] at ev
      cases od with
      | none => exact .inl ⟨sim'.stop cs.2.2.1 ea, cs.done hp hι ev g1⟩
      | some d =>
        obtain ⟨go, yl⟩ := sim'.go cs.2.2.1 ea
        refine .inr ⟨go, fun H'' => ∃ m', m' < m + 1 ∧ ∃ ι' h' acc, CS K ι1 H1 p H'' ι' h' acc ∧ bnd (compLoop J g (evT F c) (evE F e) (Ev.wipe ρ g.slots) m' (i + 1) acc h') (fun ds h2 => newList ds h2) = some r, fun H'' nx => nx, ?_⟩
        intro x H2 yx
        obtain ⟨x2, hR2, rv⟩ := yl x H2 yx
        have cs2 := cs.step x2 hR2
        simp only at ev
        split at ev
        · simp [bnd] at ev
        · rename_i ρ' hb
          refine tg_ok hb ((hn1.mo cs.1.toMo).mo (Mo.er.trans x2.toMo)) rv fun σ2 hn2 hl2 hk2 => ⟨?_, ?_⟩
          · rw [wipe_eq (σ := σ) (by rw [hl2, L2.wipe_length]) fun j hj => by rw [hk2 j hj, wipe_out hj]]
          · have ev2 : bnd (evT F c ρ' h') (fun b h1 => bnd (match b with
                | true => bnd (evE F e ρ' h1) fun x h2 => if acc.length < sizeLine then compLoop J g (evT F c) (evE F e) (Ev.wipe ρ g.slots) m (i + 1) (acc ++ [x]) h2 else none
                | false => compLoop J g (evT F c) (evE F e) (Ev.wipe ρ g.slots) m (i + 1) acc h1) fun ds h2 => newList ds h2) = some r := by
              rw [← ev]
              cases evT F c ρ' h' with
              | none => rfl
              | some z => cases z <;> rfl
            have hexc : ∀ {ι3 : List Addr} {H3 : Hp} {h3 : Hb}, CS K ι1 H1 p H3 ι3 h3 acc → ∀ c fs h2, r = .exc c fs h2 → ∀ ι2 H2 cls d, Ext K ι3 H3 ι2 H2 → R K ι2 h2 H2 → RX K ι2 H2 c fs cls d → Wb cls d σ2 H2 := fun {ι3 H3 h3} cs3 c fs h2 er ι2 H2 cls d x hr hx => by
              subst er
              exact hWb c fs h2 rfl σ2 _ _ _ (g1 ι2 H2 cls d (cs3.exc x) hr hx)
            obtain ⟨r2, e2, g2⟩ := bndD (K := K) (Rel1 := RelB) (Qx := fun cls d H' => Wb cls d σ2 H') (Q1 := fun b H3 => if b = true then tE K F Wb e σ2 H3 fun y H4 => ∃ acc, H4 p = some (.lst acc) ∧ acc.length < sizeLine ∧ (∃ m', m' < m + 1 ∧ ∃ ι' h' acc', CS K ι1 H1 p (upd H4 p (.lst (acc ++ [y]))) ι' h' acc' ∧ bnd (compLoop J g (evT F c) (evE F e) (Ev.wipe ρ g.slots) m' (i + 1) acc' h') (fun ds h2 => newList ds h2) = some r)
                else ∃ m', m' < m + 1 ∧ ∃ ι' h' acc, CS K ι1 H1 p H3 ι' h' acc ∧ bnd (compLoop J g (evT F c) (evE F e) (Ev.wipe ρ g.slots) m' (i + 1) acc h') (fun ds h2 => newList ds h2) = some r) ev2 (hexc cs2) fun b h3 e3 he3 ι3 H3 b' x3 hR3 eb => by
              cases eb
              have cs3 := cs2.step x3 hR3
              cases b with
              | false =>
                simp only [Bool.false_eq_true, if_false] at he3 ⊢
                exact ⟨m, Nat.lt_succ_self m, ι3, h3, acc, cs3, he3⟩
              | true =>
                simp only [if_true] at he3 ⊢
                have ev4 : bnd (evE F e ρ' h3) (fun x h2 => bnd (if acc.length < sizeLine then compLoop J g (evT F c) (evE F e) (Ev.wipe ρ g.slots) m (i + 1) (acc ++ [x]) h2 else none) fun ds h2 => newList ds h2) = some r := by
                  rw [← he3]
                  cases evE F e ρ' h3 with
                  | none => rfl
                  | some z => cases z <;> rfl
                obtain ⟨r4, e4, g4⟩ := bndD (K := K) (Rel1 := RelE K) (Qx := fun cls d H' => Wb cls d σ2 H') (Q1 := fun y H4 => ∃ acc, H4 p = some (.lst acc) ∧ acc.length < sizeLine ∧ (∃ m', m' < m + 1 ∧ ∃ ι' h' acc', CS K ι1 H1 p (upd H4 p (.lst (acc ++ [y]))) ι' h' acc' ∧ bnd (compLoop J g (evT F c) (evE F e) (Ev.wipe ρ g.slots) m' (i + 1) acc' h') (fun ds h2 => newList ds h2) = some r)) ev4 (hexc cs3) fun d' h4 e4 he4 ι4 H4 y x4 hR4 ry => by
                  have cs4 := cs3.step x4 hR4
                  split at he4
                  · rename_i hlt
                    obtain ⟨vs, hv, hl, cs5⟩ := cs4.push ry
                    exact ⟨vs, hv, by rw [hl]; exact hlt, m, Nat.lt_succ_self m, ι4, h4, acc ++ [d'], cs5, he4⟩
                  · simp [bnd] at he4
                exact ⟨ι3, h3, ρ', r4, hR3, hn2.mo x3.toMo, e4, g4⟩
            exact ⟨ι', h', ρ', r2, hR2, hn2, e2, g2⟩

theorem tLcK_of {α : Type} {a : Res α} {ι : List Addr} {H : Hp} {Rel : List Addr → Hp → α → L2.It → Prop} {P : L2.It → Hp → Addr → Prop} {Qx : XK} (g : Good K ι H a Rel (fun J H1 => ∀ p, H1 p = none → P J H1 p) Qx) : Good K ι H a Rel (fun J H1 => ∀ p, H1 p = none → K.lookup p = none → P J H1 p) Qx := by
  cases a with
  | ok _ _ => exact fun ι' H' b x r q p hp _ => g ι' H' b x r q p hp
  | exc _ _ _ => exact g
theorem comp_ok {g : Tg} {it : Itx} {c : Tx} {e : Ex} {σ : L2.St} {H : Hp} {Q : VK} (q : tE K F W (.comp true g it c e) σ H Q) :
    tLcK K (tI K F W it) (rTg K g) (tT K F (fun cls d _ H => W cls d σ H) c) (tE K F (fun cls d _ H => W cls d σ H) e) g.slots σ H Q := by
  obtain ⟨ι, h, ρ, r, hR, hn, he, g0⟩ := q
  simp only [evE, okX] at he
  obtain ⟨r1, e1, g1⟩ := bnd_good (Rel1 := RelI K) (Q1 := fun J H1 => ∀ p, H1 p = none → ∃ Wv : Nat → Nat → Hp → Prop, (∃ m, Wv 0 m (upd H1 p (.lst []))) ∧ ∀ i m H, Wv i m H →
      (J.stop i H ∧ Q (.ref p) H) ∨ (J.go i H ∧ ∃ Nx : Hp → Prop, (∀ H', Nx H' → ∃ m', m' < m ∧ Wv (i + 1) m' H') ∧ ∀ x H', J.yld i H x H' → rTg K g x (L2.wipe σ g.slots) H' fun σ2 H2 => L2.wipe σ2 g.slots = L2.wipe σ g.slots ∧ tT K F (fun cls d _ H => W cls d σ H) c σ2 H2 fun b H3 =>
        if b = true then tE K F (fun cls d _ H => W cls d σ H) e σ2 H3 fun y H4 => ∃ acc, H4 p = some (.lst acc) ∧ acc.length < sizeLine ∧ Nx (upd H4 p (.lst (acc ++ [y]))) else Nx H3)) he g0 fun J h1 e1 he1 ι1 H1 L x1 hR1 sim g1 =>
    comp_turns (Wb := fun cls d _ H => W cls d σ H) he1 hR1 (hn.mo x1.toMo) sim g1 fun _ _ _ _ _ _ _ _ w => w
  exact ⟨ι, h, ρ, r1, hR, hn, e1, tLcK_of g1⟩
theorem compN_ok {g : Tg} {it : Itx} {c : Tx} {e : Ex} {σ : L2.St} {H : Hp} {Q : VK} (q : tE K F W (.comp false g it c e) σ H Q) :
    tLc (tI K F W it) (rTg K g) (tT K F (fun _ _ _ _ => False) c) (tE K F (fun _ _ _ _ => False) e) g.slots σ H Q := by
  obtain ⟨ι, h, ρ, r, hR, hn, he, g0⟩ := q
  simp only [evE, okX] at he
  obtain ⟨r1, e1, g1⟩ := bnd_good (Rel1 := RelI K) (Q1 := fun J H1 => ∀ p, H1 p = none → ∃ Wv : Nat → Nat → Hp → Prop, (∃ m, Wv 0 m (upd H1 p (.lst []))) ∧ ∀ i m H, Wv i m H →
      (J.stop i H ∧ Q (.ref p) H) ∨ (J.go i H ∧ ∃ Nx : Hp → Prop, (∀ H', Nx H' → ∃ m', m' < m ∧ Wv (i + 1) m' H') ∧ ∀ x H', J.yld i H x H' → rTg K g x (L2.wipe σ g.slots) H' fun σ2 H2 => L2.wipe σ2 g.slots = L2.wipe σ g.slots ∧ tT K F (fun _ _ _ _ => False) c σ2 H2 fun b H3 =>
        if b = true then tE K F (fun _ _ _ _ => False) e σ2 H3 fun y H4 => ∃ acc, H4 p = some (.lst acc) ∧ acc.length < sizeLine ∧ Nx (upd H4 p (.lst (acc ++ [y]))) else Nx H3)) he g0 fun J h1 e1 he1 ι1 H1 L x1 hR1 sim g1 => by
    cases ec : compLoop J g (evT F c) (evE F e) (Ev.wipe ρ g.slots) (J.size h1 + 1) 0 [] h1 with
    | none => rw [ec] at he1; cases he1
    | some z =>
      cases z with
      | exc _ _ _ => rw [ec] at he1; cases he1
      | ok ds h2 =>
        rw [ec] at he1
        exact comp_turns (Wb := fun _ _ _ _ => False) (by rw [ec]; exact he1) hR1 (hn.mo x1.toMo) sim g1 fun _ _ _ er => by subst er; simp [noX, bnd, newList] at he1
  exact ⟨ι, h, ρ, r1, hR, hn, e1, g1⟩
end
end Ev

set_option Elab.async false
set_option linter.all false
set_option maxRecDepth 100000
set_option autoImplicit false
/-! Ev14: comprehensions of two fors. -/
namespace Ev
open PySem PySem.Spec PyProof.Rows L2
open He (ga ma)

section
variable {K : PySem.W.Frag} {F : Fn} {W : WX}
/-- nothing is let out -/
abbrev WN : WX := fun _ _ _ _ => False
/-- what a successful part gives -/
theorem good_ok {α β : Type} {a : α} {h1 : Hb} {ι : List Addr} {H : Hp} {Rel : List Addr → Hp → α → β → Prop} {Q : β → Hp → Prop} {Qx : XK} (h : ∀ (ι' : List Addr) (H' : Hp) (b : β), Ext K ι H ι' H' → R K ι' h1 H' → Rel ι' H' a b → Q b H') : Good K ι H (.ok a h1) Rel Q Qx := h
theorem bnd_some {α β : Type} {r : RO α} {f : α → Hb → RO β} {b : β} {h' : Hb} (e : bnd r f = some (.ok b h')) : ∃ a h1, r = some (.ok a h1) ∧ f a h1 = some (.ok b h') := by
  cases r with
  | none => cases e
  | some z => cases z with
    | ok a h1 => exact ⟨a, h1, rfl, e⟩
    | exc _ _ _ => cases e
theorem noX_some {α β : Type} {r : RO α} {f : α → Hb → RO β} {z : Res β} (e : bnd (noX r) f = some z) : ∃ a h1, r = some (.ok a h1) ∧ f a h1 = some z := by
  cases r with
  | none => cases e
  | some x => cases x with
    | ok a h1 => exact ⟨a, h1, rfl, e⟩
    | exc _ _ _ => cases e
abbrev inner2 (F : Fn) (g2 : Tg) (it2 : Itx) (c : Tx) (e : Ex) : En → List D → Hb → RO (List D) := fun ρ' acc h' => bnd (evI F it2 ρ' h') fun J2 h2 => compLoop J2 g2 (evT F c) (evE F e) (Ev.wipe ρ' g2.slots) (J2.size h2 + 1) 0 acc h2
theorem comp2_ok {g g2 : Tg} {it it2 : Itx} {c : Tx} {e : Ex} {σ : L2.St} {H : Hp} {Q : VK} (q : tE K F W (.comp2 g it g2 it2 c e) σ H Q) :
    tLc2 (tI K F W it) (rTg K g) (tT K F WN .yes) (tI K F WN it2) (rTg K g2) (tT K F WN c) (tE K F WN e) (g2.slots ++ g.slots) g2.slots σ H Q := by
  obtain ⟨ι, h, ρ, r, hR, hn, he, g0⟩ := q
  simp only [evE] at he
  obtain ⟨r1, e1, g1⟩ := bnd_good (Rel1 := RelI K) (Q1 := fun J H1 => ∀ D, H1 D = none → ∃ Wv : Nat → Nat → Hp → Prop, (∃ m, Wv 0 m (upd H1 D (.lst []))) ∧ ∀ i m H, Wv i m H →
  (J.stop i H ∧ Q (.ref D) H) ∨ (J.go i H ∧ ∃ Nx : Hp → Prop, (∀ H', Nx H' → ∃ m', m' < m ∧ Wv (i + 1) m' H') ∧ ∀ x H', J.yld i H x H' → rTg K g x (L2.wipe σ (g2.slots ++ g.slots)) H' fun σ2 H2 => L2.wipe σ2 (g2.slots ++ g.slots) = L2.wipe σ (g2.slots ++ g.slots) ∧ tT K F WN .yes σ2 H2 fun b H3 =>
    if b = true then tI K F WN it2 σ2 H3 fun J1 H4 => ∃ W1 : Nat → Nat → Hp → Prop, (∃ m, W1 0 m H4) ∧ ∀ j k H, W1 j k H →
      (J1.stop j H ∧ Nx H) ∨ (J1.go j H ∧ ∃ Nx1 : Hp → Prop, (∀ H', Nx1 H' → ∃ k', k' < k ∧ W1 (j + 1) k' H') ∧ ∀ x H', J1.yld j H x H' → rTg K g2 x (L2.wipe σ2 g2.slots) H' fun σ3 H5 => L2.wipe σ3 g2.slots = L2.wipe σ2 g2.slots ∧ tT K F WN c σ3 H5 fun b H6 =>
        if b = true then tE K F WN e σ3 H6 fun y H7 => ∃ acc, H7 D = some (.lst acc) ∧ acc.length < sizeLine ∧ Nx1 (upd H7 D (.lst (acc ++ [y]))) else Nx1 H6)
    else Nx H3)) he g0 fun J h1 e1 he1 ι1 H1 L x1 hR1 sim g1 => by
    intro p hp
    have hι := hR1.notin hp
    have hn1 := wipe_rn (hn.mo x1.toMo) (g2.slots ++ g.slots)
    obtain ⟨ds, hd, el, en⟩ := noX_some he1
    refine ⟨fun i m H' => ∃ ι' h' acc, CS K ι1 H1 p H' ι' h' acc ∧ compLoop2 J g (inner2 F g2 it2 c e) (Ev.wipe ρ (g2.slots ++ g.slots)) m i acc h' = some (.ok ds hd), ⟨_, ι1, h1, [], CS.start hR1 hp, el⟩, ?_⟩
    rintro i m H' ⟨ι', h', acc, cs, ev⟩
    have sim' : Sim K ι' H' J L := (sim.ext cs.1).er
    cases m with
    | zero => simp [compLoop2] at ev
    | succ m =>
      simp only [compLoop2] at ev
      cases ea : J.at h' i with
      | none => rw [ea] at ev; simp at ev
      | some od =>
        rw [ea] at ev
        cases od with
        | none =>
          simp only at ev
          cases ev
          exact .inl ⟨sim'.stop cs.2.2.1 ea, cs.done hp hι en g1⟩
        | some d =>
          obtain ⟨go, yl⟩ := sim'.go cs.2.2.1 ea
          refine .inr ⟨go, fun H'' => ∃ m', m' < m + 1 ∧ ∃ ι' h' acc, CS K ι1 H1 p H'' ι' h' acc ∧ compLoop2 J g (inner2 F g2 it2 c e) (Ev.wipe ρ (g2.slots ++ g.slots)) m' (i + 1) acc h' = some (.ok ds hd), fun H'' nx => nx, ?_⟩
          intro x H2 yx
          obtain ⟨x2, hR2, rv⟩ := yl x H2 yx
          have cs2 := cs.step x2 hR2
          simp only at ev
          split at ev
          · simp at ev
          · rename_i ρ' hb
            refine tg_ok hb ((hn1.mo cs.1.toMo).mo (Mo.er.trans x2.toMo)) rv fun σ2 hn2 hl2 hk2 => ⟨?_, ?_⟩
            · exact wipe_eq (by rw [hl2, L2.wipe_length]) fun j hj => by
                rw [hk2 j (fun z => hj (List.mem_append_right _ z)), wipe_out hj]
            · obtain ⟨acc', hx, ei, ev⟩ := bnd_some ev
              obtain ⟨J2, h4, e2, ei⟩ := bnd_some ei
              refine ⟨ι', h', ρ', .ok true h', hR2, hn2, rfl, good_ok fun ι3 H3 b x3 hR3 eb => ?_⟩
              cases eb
              simp only [if_true]
              have cs3 := cs2.step x3 hR3
              refine ⟨ι3, h', ρ', .ok J2 h4, hR3, hn2.mo x3.toMo, e2, good_ok fun ι4 H4 L2' x4 hR4 sim2 => ?_⟩
              have cs4 := cs3.step x4 hR4
              have hn4 := wipe_rn ((hn2.mo x3.toMo).mo x4.toMo) g2.slots
              obtain ⟨_, _, _, vs4, hv4, _⟩ := id cs4
              have sim4 := sim2.to_er hv4
              refine ⟨fun j k H' => ∃ ι' h' acc, CS K ι1 H1 p H' ι' h' acc ∧ Ext K ι4 (er p H4) ι' (er p H') ∧ compLoop J2 g2 (evT F c) (evE F e) (Ev.wipe ρ' g2.slots) k j acc h' = some (.ok acc' hx), ⟨_, ι4, h4, acc, cs4, Ext.refl, ei⟩, ?_⟩
              rintro j k H5 ⟨ι5, h5, acc5, cs5, x5, ev5⟩
              have sim5 : Sim K ι5 H5 J2 L2' := (sim4.ext x5).er
              cases k with
              | zero => simp [compLoop] at ev5
              | succ k =>
                simp only [compLoop] at ev5
                cases eb : J2.at h5 j with
                | none => rw [eb] at ev5; simp at ev5
                | some od2 =>
                  rw [eb] at ev5
                  cases od2 with
                  | none =>
                    simp only at ev5
                    cases ev5
                    exact .inl ⟨sim5.stop cs5.2.2.1 eb, m, Nat.lt_succ_self m, ι5, _, _, cs5, ev⟩
                  | some d2 =>
                    obtain ⟨go2, yl2⟩ := sim5.go cs5.2.2.1 eb
                    refine .inr ⟨go2, fun H'' => ∃ k', k' < k + 1 ∧ ∃ ι' h' acc, CS K ι1 H1 p H'' ι' h' acc ∧ Ext K ι4 (er p H4) ι' (er p H'') ∧ compLoop J2 g2 (evT F c) (evE F e) (Ev.wipe ρ' g2.slots) k' (j + 1) acc h' = some (.ok acc' hx), fun H'' nx => nx, ?_⟩
                    intro x6 H6 yx6
                    obtain ⟨x6', hR6, rv6⟩ := yl2 x6 H6 yx6
                    have cs6 := cs5.step x6' hR6
                    have x56 := x5.trans x6'.er
                    simp only at ev5
                    split at ev5
                    · simp at ev5
                    · rename_i ρ6 hb6
                      have hn6 : Rn K ι5 H6 (Ev.wipe ρ' g2.slots) (L2.wipe σ2 g2.slots) := (hn4.mo (Mo.to_er hv4)).mo (x5.toMo.trans (Mo.er.trans x6'.toMo))
                      refine tg_ok hb6 hn6 rv6 fun σ7 hn7 hl7 hk7 => ⟨?_, ?_⟩
                      · exact wipe_eq (by rw [hl7, L2.wipe_length]) fun j hj => by rw [hk7 j hj, wipe_out hj]
                      · obtain ⟨b, h7, e7, ev7⟩ := bnd_some ev5
                        refine ⟨ι5, h5, ρ6, .ok b h7, hR6, hn7, e7, good_ok fun ι7 H7 b' x7 hR7 eb' => ?_⟩
                        cases eb'
                        have cs7 := cs6.step x7 hR7
                        have x57 := x56.trans x7.er
                        cases b with
                        | false =>
                          simp only [Bool.false_eq_true, if_false] at ev7 ⊢
                          exact ⟨k, Nat.lt_succ_self k, ι7, h7, acc5, cs7, x57, ev7⟩
                        | true =>
                          simp only [if_true] at ev7 ⊢
                          obtain ⟨d8, h8, e8, ev8⟩ := bnd_some ev7
                          refine ⟨ι7, h7, ρ6, .ok d8 h8, hR7, hn7.mo x7.toMo, e8, good_ok fun ι8 H8 y x8 hR8 ry => ?_⟩
                          have cs8 := cs7.step x8 hR8
                          have x58 := x57.trans x8.er
                          split at ev8
                          · rename_i hlt
                            obtain ⟨vs, hv, hl, cs9⟩ := cs8.push ry
                            exact ⟨vs, hv, by rw [hl]; exact hlt, k, Nat.lt_succ_self k, ι8, h8, acc5 ++ [d8], cs9, by rw [er_upd]; exact x58, ev8⟩
                          · cases ev8
  exact ⟨ι, h, ρ, r1, hR, hn, e1, g1⟩
end

/-! ### as rules -/
section
variable {X : Cx} {F : Fn} {W : WX} {elt tg iter tg1 iter1 : Expr} {ifs ifs1 : List Expr} {scope : Scope} {own : List (Str × Nat)} {pos : Pos} {g g1 : Tg} {it it1 : Itx} {c : Tx} {e : Ex}
theorem snd_comp (hc : X.calm = true) (hN : X.N.Nodup) (tk : Takes X W) (hst : X.stack = X.env :: X.outer) (hfm : X.env.frame = some X.env.locals) (hi : PI X tg iter (tI X.K F W it)) (ok : BlkOk X.N X.env.scope scope own) (ho : own.map (·.2) = g.slots)
    (hg : ∀ (s : Shared) (H : Hp) (C : Addr) (cl : List (Str × Addr)) (fp : List Addr), PG (blx X s H scope (compEnvC scope cl C X.env) fp) tg (rTg X.K g))
    (ht : ∀ (s : Shared) (H : Hp) (C : Addr) (cl : List (Str × Addr)) (fp : List Addr) (W' : WX), Lets (blx X s H scope (compEnvC scope cl C X.env) fp) W' → PTs (blx X s H scope (compEnvC scope cl C X.env) fp) ifs (tT X.K F W' c))
    (he : ∀ (s : Shared) (H : Hp) (C : Addr) (cl : List (Str × Addr)) (fp : List Addr) (W' : WX), Lets (blx X s H scope (compEnvC scope cl C X.env) fp) W' → PE (blx X s H scope (compEnvC scope cl C X.env) fp) elt (tE X.K F W' e))
    (hs : ∀ x, foldedSetIterable iter X.env x = pure x) : PE X (.ListComp elt [⟨tg, iter, ifs, 0⟩] scope pos) (tE X.K F W (.comp true g it c e)) :=
  (pe_lcx (W := W) (tt := fun W' => tT X.K F W' c) (te := fun W' => tE X.K F W' e) hc hN tk hst hfm hi ok hg ht he hs).imp fun σ H Q q => by rw [ho]; exact comp_ok q
theorem snd_setComp {i : Nat} {y : Str} {py spos : Pos} (hc : X.calm = true) (hN : X.N.Nodup) (hy : X.N[i]? = some y) (hyl : X.env.scope.names.lookup y = some .local)
    (hsw : swapsWith (.ListComp elt [⟨tg, iter, ifs, 0⟩] scope pos) (some (.Name y py)) spos.line X.env = pure true) (tk : Takes X W) (hst : X.stack = X.env :: X.outer) (hfm : X.env.frame = some X.env.locals) (hi : PI X tg iter (tI X.K F W it)) (ok : BlkOk X.N X.env.scope scope own) (ho : own.map (·.2) = g.slots)
    (hg : ∀ (s : Shared) (H : Hp) (C : Addr) (cl : List (Str × Addr)) (fp : List Addr), PG (blx X s H scope (compEnvC scope cl C X.env) fp) tg (rTg X.K g))
    (ht : ∀ (s : Shared) (H : Hp) (C : Addr) (cl : List (Str × Addr)) (fp : List Addr) (W' : WX), Lets (blx X s H scope (compEnvC scope cl C X.env) fp) W' → PTs (blx X s H scope (compEnvC scope cl C X.env) fp) ifs (tT X.K F W' c))
    (he : ∀ (s : Shared) (H : Hp) (C : Addr) (cl : List (Str × Addr)) (fp : List Addr) (W' : WX), Lets (blx X s H scope (compEnvC scope cl C X.env) fp) W' → PE (blx X s H scope (compEnvC scope cl C X.env) fp) elt (tE X.K F W' e))
    (hs : ∀ x, foldedSetIterable iter X.env x = pure x) : PS X (.Assign [.Name y py] (.ListComp elt [⟨tg, iter, ifs, 0⟩] scope pos) spos) (tAsg (tE X.K F W (.comp true g it c e)) (gName i)) := by
  have z := ps_setLcx (W := W) (i := i) (spos := spos) (py := py) (tt := fun W' => tT X.K F W' c) (te := fun W' => tE X.K F W' e) hc hN hy hyl hsw tk hst hfm hi ok hg ht he hs
  refine ⟨fun pins s σ H D I h => z.run pins s σ H D I ?_⟩
  have h' := comp_ok h
  rw [← ho] at h'
  exact h'
theorem snd_compN (hc : X.calm = true) (hN : X.N.Nodup) (hi : PI X tg iter (tI X.K F W it)) (ok : BlkOk X.N X.env.scope scope own) (ho : own.map (·.2) = g.slots)
    (hg : ∀ (s : Shared) (H : Hp) (C : Addr) (cl : List (Str × Addr)) (fp : List Addr), PG (X.blk s H scope (compEnvC scope cl C X.env) fp) tg (rTg X.K g))
    (ht : ∀ (s : Shared) (H : Hp) (C : Addr) (cl : List (Str × Addr)) (fp : List Addr), PTs (X.blk s H scope (compEnvC scope cl C X.env) fp) ifs (tT X.K F WN c))
    (he : ∀ (s : Shared) (H : Hp) (C : Addr) (cl : List (Str × Addr)) (fp : List Addr), PE (X.blk s H scope (compEnvC scope cl C X.env) fp) elt (tE X.K F WN e))
    (hs : ∀ x, foldedSetIterable iter X.env x = pure x) : PE X (.ListComp elt [⟨tg, iter, ifs, 0⟩] scope pos) (tE X.K F W (.comp false g it c e)) :=
  (pe_lc hc hN hi ok hg ht he hs).imp fun σ H Q q => by rw [ho]; exact compN_ok q
theorem snd_setCompN {i : Nat} {y : Str} {py spos : Pos} (hc : X.calm = true) (hN : X.N.Nodup) (hy : X.N[i]? = some y) (hyl : X.env.scope.names.lookup y = some .local)
    (hsw : swapsWith (.ListComp elt [⟨tg, iter, ifs, 0⟩] scope pos) (some (.Name y py)) spos.line X.env = pure true) (hi : PI X tg iter (tI X.K F W it)) (ok : BlkOk X.N X.env.scope scope own) (ho : own.map (·.2) = g.slots)
    (hg : ∀ (s : Shared) (H : Hp) (C : Addr) (cl : List (Str × Addr)) (fp : List Addr), PG (X.blk s H scope (compEnvC scope cl C X.env) fp) tg (rTg X.K g))
    (ht : ∀ (s : Shared) (H : Hp) (C : Addr) (cl : List (Str × Addr)) (fp : List Addr), PTs (X.blk s H scope (compEnvC scope cl C X.env) fp) ifs (tT X.K F WN c))
    (he : ∀ (s : Shared) (H : Hp) (C : Addr) (cl : List (Str × Addr)) (fp : List Addr), PE (X.blk s H scope (compEnvC scope cl C X.env) fp) elt (tE X.K F WN e))
    (hs : ∀ x, foldedSetIterable iter X.env x = pure x) : PS X (.Assign [.Name y py] (.ListComp elt [⟨tg, iter, ifs, 0⟩] scope pos) spos) (tAsg (tE X.K F W (.comp false g it c e)) (gName i)) := by
  have z := ps_setLc (i := i) (spos := spos) (py := py) hc hN hy hyl hsw hi ok hg ht he hs
  refine ⟨fun pins s σ H D I h => z.run pins s σ H D I ?_⟩
  have h' := compN_ok h
  rw [← ho] at h'
  exact h'
theorem snd_setComp2 {i : Nat} {y : Str} {py spos : Pos} (hc : X.calm = true) (hN : X.N.Nodup) (hy : X.N[i]? = some y) (hyl : X.env.scope.names.lookup y = some .local)
    (hsw : swapsWith (.ListComp elt [⟨tg, iter, [], 0⟩, ⟨tg1, iter1, ifs1, 0⟩] scope pos) (some (.Name y py)) spos.line X.env = pure true) (hi : PI X tg iter (tI X.K F W it)) (ok : BlkOk X.N X.env.scope scope own) (ho : own.map (·.2) = g1.slots ++ g.slots)
    (hg : ∀ (s : Shared) (H : Hp) (C : Addr) (cl : List (Str × Addr)) (fp : List Addr), PG (X.blk s H scope (compEnvC scope cl C X.env) fp) tg (rTg X.K g))
    (hi1 : ∀ (s : Shared) (H : Hp) (C : Addr) (cl : List (Str × Addr)) (fp : List Addr), PI (X.blk s H scope (compEnvC scope cl C X.env) fp) tg1 iter1 (tI X.K F WN it1))
    (hg1 : ∀ (s : Shared) (H : Hp) (C : Addr) (cl : List (Str × Addr)) (fp : List Addr), PG (X.blk s H scope (compEnvC scope cl C X.env) fp) tg1 (rTg X.K g1))
    (ht1 : ∀ (s : Shared) (H : Hp) (C : Addr) (cl : List (Str × Addr)) (fp : List Addr), PTs (X.blk s H scope (compEnvC scope cl C X.env) fp) ifs1 (tT X.K F WN c))
    (he : ∀ (s : Shared) (H : Hp) (C : Addr) (cl : List (Str × Addr)) (fp : List Addr), PE (X.blk s H scope (compEnvC scope cl C X.env) fp) elt (tE X.K F WN e))
    (hs : ∀ x, foldedSetIterable iter X.env x = pure x) (hs1 : ∀ env x, foldedSetIterable iter1 env x = pure x) : PS X (.Assign [.Name y py] (.ListComp elt [⟨tg, iter, [], 0⟩, ⟨tg1, iter1, ifs1, 0⟩] scope pos) spos) (tAsg (tE X.K F W (.comp2 g it g1 it1 c e)) (gName i)) := by
  have z := ps_setLc2 (i := i) (spos := spos) (py := py) (tt := tT X.K F WN .yes) hc hN hy hyl hsw hi ok (vs1 := g1.slots) (fun i hi => by rw [ho]; exact List.mem_append_left _ hi) hg (fun s H C cl fp => ⟨fun pins s σ H Q I q => pts_nil.run pins s σ H Q I (by
    obtain ⟨ι, h, ρ, r, hR, hn, he, g⟩ := q
    simp only [evT] at he; cases he
    exact g.here hR rfl)⟩) hi1 hg1 ht1 he hs hs1
  refine ⟨fun pins s σ H D I h => z.run pins s σ H D I ?_⟩
  have h' := comp2_ok h
  rw [← ho] at h'
  exact h'
theorem snd_comp2 (hc : X.calm = true) (hN : X.N.Nodup) (hi : PI X tg iter (tI X.K F W it)) (ok : BlkOk X.N X.env.scope scope own) (ho : own.map (·.2) = g1.slots ++ g.slots)
    (hg : ∀ (s : Shared) (H : Hp) (C : Addr) (cl : List (Str × Addr)) (fp : List Addr), PG (X.blk s H scope (compEnvC scope cl C X.env) fp) tg (rTg X.K g))
    (hi1 : ∀ (s : Shared) (H : Hp) (C : Addr) (cl : List (Str × Addr)) (fp : List Addr), PI (X.blk s H scope (compEnvC scope cl C X.env) fp) tg1 iter1 (tI X.K F WN it1))
    (hg1 : ∀ (s : Shared) (H : Hp) (C : Addr) (cl : List (Str × Addr)) (fp : List Addr), PG (X.blk s H scope (compEnvC scope cl C X.env) fp) tg1 (rTg X.K g1))
    (ht1 : ∀ (s : Shared) (H : Hp) (C : Addr) (cl : List (Str × Addr)) (fp : List Addr), PTs (X.blk s H scope (compEnvC scope cl C X.env) fp) ifs1 (tT X.K F WN c))
    (he : ∀ (s : Shared) (H : Hp) (C : Addr) (cl : List (Str × Addr)) (fp : List Addr), PE (X.blk s H scope (compEnvC scope cl C X.env) fp) elt (tE X.K F WN e))
    (hs : ∀ x, foldedSetIterable iter X.env x = pure x) (hs1 : ∀ env x, foldedSetIterable iter1 env x = pure x) : PE X (.ListComp elt [⟨tg, iter, [], 0⟩, ⟨tg1, iter1, ifs1, 0⟩] scope pos) (tE X.K F W (.comp2 g it g1 it1 c e)) := by
  refine (pe_lc2 hc hN hi ok (vs1 := g1.slots) (fun i hi => by rw [ho]; exact List.mem_append_left _ hi) hg (fun s H C cl fp => ⟨fun pins s σ H Q I q => pts_nil.run pins s σ H Q I ?_⟩) hi1 hg1 ht1 he hs hs1).imp fun σ H Q q => by rw [ho]; exact comp2_ok q
  obtain ⟨ι, h, ρ, r, hR, hn, he, g⟩ := q
  simp only [evT] at he; cases he
  exact g.here hR rfl
end
end Ev

set_option Elab.async false
set_option linter.all false
set_option maxRecDepth 100000
set_option autoImplicit false
/-! Ev15: calls of the program's own defs, methods and classes. -/
namespace Ev
open PySem PySem.Spec PyProof.Rows L2
open He (ga ma)

/-- a def's promise: what the evaluator says -/
def spF (K : PySem.W.Frag) (F : Fn) (c m : Str) : Sp := fun vs H Q E => ∃ ι h ds r, R K ι h H ∧ Rvs K ι H ds vs ∧ F.run c m ds h = some r ∧ Good K ι H r (RelE K) Q E

section
variable {X : Cx} {F : Fn} {W : WX} {k : Nat} {f C : Addr} {fd : FuncData} {ps : List Str} {x m c : Str} {p pos apos : Pos} {e o : Expr} {es : List Expr} {xs : ExL} {xo : Ex}
theorem allPlain {pos : Pos} {es : List Expr} {env : Env} (h : ∀ e ∈ es, ∀ a p, e ≠ .Starred a p) : (backTo pos (starEach es env)).all (fun x => !x.1) = true := by
  have := backPlain (pos := pos) (env := env) h
  rw [List.all_eq_not_any_not]
  simpa using this
theorem snd_call (hF : FnOk X.prog X.w X.K X.mg X.base (L2.CX X.prog X.w) k f fd ps (spF X.K F Str.empty x)) (hr : Room k X.A) (hg : Gl X x) (hm : X.mg x = some (.ref f)) (hk : PySem.W.keepIn X.K (.ref f) = true) (hb : Binds X.K fd ps []) (lets : Lets X W)
    (ha : PEs X F W (e :: es) xs) (hdb : (x == ("__debug__" : Str)) = false) : PE X (.Call (.Name x p) (e :: es) [] pos) (tE X.K F W (.call x xs)) := by
  refine (pe_callS (E := WE W) hF hr hg hm hk hb lets ha.pa hdb (star_cons (ha.star e (by simp))) (backPlain fun z hz => ha.star z (by simp [hz]))).imp ?_
  rintro σ H Q ⟨ι, h, ρ, r, hR, hn, he, g⟩
  simp only [evE] at he
  obtain ⟨r1, e1, g1⟩ := bnd_good (Rel1 := RelL X.K) (Q1 := fun vs H1 => spF X.K F Str.empty x vs H1 Q (WE W σ)) he g fun ds h1 e1 he1 ι1 H1 vs x1 hR1 rv g1 =>
    ⟨ι1, h1, ds, r, hR1, rv, he1, g1⟩
  exact ⟨ι, h, ρ, r1, hR, hn, e1, g1⟩

/-! ### methods -/
theorem eval_meth {env : Env} (hb : attributeBase o m env (eval o env) = eval o env) (hf : methodCallForm es.length (backTo pos (starEach es env)) (backToKw pos (keywordEach [] env)) = true) (hl : (apos.endLine == pos.line) = true) :
    eval (.Call (.Attribute o m apos) es [] pos) env = (do
      let ov ← eval o env
      standAt apos.atName
      let (f, first) ← holding [ov] (getMethod ov m (do return (← importBound o env).getD true))
      callWith pos f first (backTo pos (starEach es env)) (backToKw pos (keywordEach [] env))) := by
  show (do
    let ov ← attributeBase o m env (eval o env)
    standAt apos.atName
    methodCall o m apos pos env ov (es.length + ([] : List Keyword).length) (backTo pos (starEach es env)) (backToKw pos (keywordEach [] env))) = _
  rw [hb]
  unfold methodCall calleeOf methodCallPos
  have hf' : methodCallForm (es.length + ([] : List Keyword).length) (backTo pos (starEach es env)) (backToKw pos (keywordEach [] env)) = true := hf
  simp only [hf', if_true, hl, Bool.not_true, Bool.false_or, pure_bind]
/-- o.m(..), its class told by the object -/
def tMethE (K : PySem.W.Frag) (C : Addr) (m : Str) (sp : Sp) (E : L2.St → XK) (ta : TE) (t : TA) : TE := fun σ H Q => ta σ H fun x H1 => ∃ a dx fs, x = .ref a ∧ H1 a = some (.ins C dx fs) ∧ fs.lookup m = none ∧ t σ H1 fun vs H2 => sp (x :: vs) H2 Q (E σ)
theorem pe_methE {CX : CXT} {sp : Sp} {E : L2.St → XK} {ta : TE} {t : TA} (ho : PE X o ta) (cl : Cls X.K C) (hm : Meth X.K C m f) (hF : FnOk X.prog X.w X.K X.mg X.base CX k f fd ps sp) (hr : Room k X.A) (hb : Binds X.K fd ps [])
    (hx : ∀ σ, PassesAt CX X σ (E σ)) (ha : PA X (e :: es) t) (hs : ∀ z ∈ e :: es, ∀ a p, z ≠ .Starred a p) (hn : (e :: es).length < 30) (hsup : noSup o = true) (hl : (apos.endLine == pos.line) = true) :
    PE X (.Call (.Attribute o m apos) (e :: es) [] pos) (tMethE X.K C m sp E ta t) := by
  have few : methodCallForm (e :: es).length (backTo pos (starEach (e :: es) X.env)) (backToKw pos (keywordEach [] X.env)) = true := by
    unfold methodCallForm
    rw [allPlain hs]
    have hn' : (e :: es).length + 0 < 30 := hn
    simp only [Bool.true_and]
    show ((backToKw pos (keywordEach [] X.env)).all (fun x => x.1.isSome) && decide ((e :: es).length + 0 < 30)) = true
    rw [decide_eq_true hn']; rfl
  refine ⟨fun pins s σ H Q I h => ?_⟩
  refine PySem.W.methodCall_KW (thn (ho.run pins s σ H _ I h) fun u s1 ⟨x, H1, I1, rx, a, dx, fs, ex, ea, l, q⟩ => ?_) (eval_meth (attr_base hsup) few hl)
  subst ex
  obtain rfl : u = Value.ref a := rx
  refine getmeth_ok I1 ea cl hm l ?_
  refine PySem.W.callWith_K (first := [.ref a]) (h₀ := X.base) I.ok.mod.kin hm.kp (thn (ha.run pos pins s1 σ H1 _ I1 q) fun us s2 ⟨vs, H2, I2, r, q2⟩ => ⟨I2.kIn, ?_⟩) (star_cons (hs e (by simp))) (backPlain fun z hz => hs z (by simp [hz]))
  exact run_fnS (us := .ref a :: us) (vs := .ref a :: vs) hF hr hb (hx σ) I2 (.cons rfl r) q2
/-- the methods that are known -/
structure MthOk (X : Cx) (F : Fn) (k : Nat) (c m : Str) : Prop where
  cl : Cls X.K (ga X.K c)
  ok : ∃ f fd ps, Meth X.K (ga X.K c) m f ∧ FnOk X.prog X.w X.K X.mg X.base (L2.CX X.prog X.w) k f fd ps (spF X.K F c m) ∧ Binds X.K fd ps []
theorem snd_meth (ho : PE X o (tE X.K F W xo)) (known : ∀ (c : Str), F.has c m = true → MthOk X F k c m) (hr : Room k X.A) (lets : Lets X W) (ha : PEs X F W (e :: es) xs)
    (hn : (e :: es).length < 30) (hsup : noSup o = true) (hl : (apos.endLine == pos.line) = true) : PE X (.Call (.Attribute o m apos) (e :: es) [] pos) (tE X.K F W (.meth xo m xs)) := by
  refine PE.pick ?_
  rintro σ H Q ⟨ι, h, ρ, r, hR, hn', he, g⟩
  simp only [evE] at he
  obtain ⟨d, h1, e1, he⟩ := noX_some he
  split at he
  · rename_i n
    split at he
    · rename_i c fs q
      split at he
      · rename_i hh
        obtain ⟨hnone, hhas⟩ := hh
        obtain ⟨cl, f, fd, ps, hm, hF, hb⟩ := known c hhas
        refine ⟨_, pe_methE (E := WE W) ho cl hm hF hr hb lets ha.pa (ha.star) hn hsup hl, ?_⟩
        refine ⟨ι, h, ρ, .ok (.ref n) h1, hR, hn', e1, good_ok fun ι1 H1 v x1 hR1 rv => ?_⟩
        have g1 := g.lift x1
        obtain ⟨a, rfl, ea⟩ := rv.ref_inv
        obtain ⟨dx, ws, hw, rf, _, _⟩ := hR1.obj _ _ _ q ea
        refine ⟨a, dx, ws, rfl, hw, rf.look_none (by simpa using hnone), ?_⟩
        obtain ⟨r2, e2, g2⟩ := bnd_good (Rel1 := RelL X.K) (Q1 := fun vs H2 => spF X.K F c m (V.ref a :: vs) H2 Q (WE W σ)) he g1 fun ds h2 e2 he2 ι2 H2 vs x2 hR2 rvs g2 =>
          ⟨ι2, h2, _, r, hR2, .cons (.ref (x2.pre _ _ ea)) rvs, he2, g2⟩
        exact ⟨ι1, h1, ρ, r2, hR1, hn'.mo x1.toMo, e2, g2⟩
      · cases he
    · cases he
  · cases he

/-! ### classes -/
def tMakeE (C : Addr) (sp : Sp) (E : L2.St → XK) (t : TA) : TE := fun σ H Q => t σ H fun vs H1 => ∀ x dx, H1 x = none → H1 dx = none → dx ≠ x →
  sp (.ref x :: vs) (upd (upd H1 dx (.own x)) x (.ins C dx [])) (fun v H2 => v = .non ∧ Q (.ref x) H2) (E σ)
theorem pe_makeE {CX : CXT} {sp : Sp} {E : L2.St → XK} {t : TA} (M : Mk X.K C f) (hF : FnOk X.prog X.w X.K X.mg X.base CX k f fd ps sp) (hr : Room (k + 1) X.A) (hg : Gl X x) (hm : X.mg x = some (.ref C)) (hb : Binds X.K fd ps []) (hx : ∀ σ, PassesAt CX X σ (E σ))
    (ha : PA X (e :: es) t) (hdb : (x == ("__debug__" : Str)) = false) (hs : ∀ z ∈ e :: es, ∀ a p, z ≠ .Starred a p) : PE X (.Call (.Name x p) (e :: es) [] pos) (tMakeE C sp E t) := by
  refine ⟨fun pins s σ H Q I h => ?_⟩
  refine wpAny_Call_Name_kw (ld_glob I hg hm ?_ hdb)
  refine PySem.W.callWith_K (h₀ := X.base) I.ok.mod.kin M.kp (thn (ha.run pos pins s σ H _ I h) fun us s1 ⟨vs, H1, I1, r, q⟩ => ⟨I1.kIn, ?_⟩) (star_cons (hs e (by simp))) (backPlain fun z hz => hs z (by simp [hz]))
  have hq := q (s1.heap.objs.size + 1) s1.heap.objs.size (I1.hok.fresh (Nat.le_succ _)) (I1.hok.fresh (Nat.le_refl _)) (Nat.ne_of_lt (Nat.lt_succ_self _))
  have I2 := Inv.made (C := C) I1
  have r2 : Vals (V.ref (s1.heap.objs.size + 1) :: vs) (Value.ref (s1.heap.objs.size + 1) :: us) := .cons rfl r
  have hl : (Value.ref (s1.heap.objs.size + 1) :: us ++ []).length = ps.length := by
    rw [List.append_nil, ← r2.length, hF.len _ _ _ _ hq]
  have bd := hb _ (Value.ref (s1.heap.objs.size + 1) :: us) I2.kIn hl
  rw [List.append_nil] at bd
  refine wpAny_call (make_map (f := f) I1.kIn M.makes M.init (beq_iff_eq.mp M.fn) (codeAny_mono (hF.run _ X.stack _ _ ⟨Value.ref (s1.heap.objs.size + 1) :: us, []⟩ _ _ _ (E σ) (hr.make C us []) (I2.env0.make C us []) bd r2 hq) fun r s' hq' => ?_))
  cases r with
  | error e => exact hx σ pins _ _ e s' I2 hq'
  | ok fl =>
    cases fl with
    | ret u =>
      obtain ⟨v, H', I3, rv, ev, q3⟩ := I2.after hq'
      subst ev
      exact ⟨rv, V.ref (s1.heap.objs.size + 1), H', I3, rfl, q3⟩
    | next => exact False.elim hq'
    | brk => exact False.elim hq'
    | cont => exact False.elim hq'
theorem snd_make (M : Mk X.K (ga X.K x) f) (cl : Cls X.K (ga X.K x)) (hF : FnOk X.prog X.w X.K X.mg X.base (L2.CX X.prog X.w) k f fd ps (spF X.K F x "__init__")) (hr : Room (k + 1) X.A) (hg : Gl X x) (hm : X.mg x = some (.ref (ga X.K x))) (hb : Binds X.K fd ps []) (lets : Lets X W)
    (ha : PEs X F W (e :: es) xs) (hdb : (x == ("__debug__" : Str)) = false) : PE X (.Call (.Name x p) (e :: es) [] pos) (tE X.K F W (.make x xs)) := by
  refine (pe_makeE (E := WE W) M hF hr hg hm hb lets ha.pa hdb ha.star).imp ?_
  rintro σ H Q ⟨ι, h, ρ, r, hR, hn, he, g⟩
  simp only [evE] at he
  obtain ⟨r1, e1, g1⟩ := bnd_good (Rel1 := RelL X.K) (Q1 := fun vs H1 => ∀ y dx, H1 y = none → H1 dx = none → dx ≠ y → spF X.K F x "__init__" (.ref y :: vs) (upd (upd H1 dx (.own y)) y (.ins (ga X.K x) dx [])) (fun v H2 => v = .non ∧ Q (.ref y) H2) (WE W σ)) he g fun ds h1 e1 he1 ι1 H1 vs x1 hR1 rv g1 => by
    intro y dx hy hdx hne
    have m1 : Mo X.K ι1 H1 ι1 (upd H1 dx (.own y)) := ⟨fun _ _ e => e, fun a vs e => sqT_upd e (by rw [hdx]; simp), fun a o vs e => frl_upd e (by rw [hdx]; simp)⟩
    have hR2 := hR1.fresh hdx m1
    have x2 := Ext.ofFresh hdx m1
    have hy2 : upd H1 dx (.own y) y = none := by rw [upd_ne (Ne.symm hne)]; exact hy
    have m3 : Mo X.K ι1 (upd H1 dx (.own y)) (ι1 ++ [y]) (upd (upd H1 dx (.own y)) y (.ins (ga X.K x) dx [])) := Mo.new hy2
    have hR3 : R X.K (ι1 ++ [y]) (h1 ++ [.ins x []]) (upd (upd H1 dx (.own y)) y (.ins (ga X.K x) dx [])) := hR2.new hy2 rfl ⟨dx, [], upd_same, .nil, cl, by simp⟩
    have x3 := x2.trans (Ext.new (u := .ins (ga X.K x) dx []) hy2)
    have g3 := g1.lift x3
    have rself : Rv X.K (ι1 ++ [y]) (upd (upd H1 dx (.own y)) y (.ins (ga X.K x) dx [])) (.ref h1.length) (.ref y) := .ref (by rw [← hR1.len, List.getElem?_append_right (Nat.le_refl _)]; simp)
    obtain ⟨r4, e4, g4⟩ := bnd_good (Rel1 := RelE X.K) (Q1 := fun v H2 => v = .non ∧ Q (.ref y) H2) he1 g3 fun d h2 e2 he2 ι2 H2 v x4 hR4 rv4 g4 => by
      split at he2
      · cases he2
        cases rv4
        exact ⟨rfl, g4.here hR4 (rself.mo x4.toMo)⟩
      · cases he2
    exact ⟨_, _, _, r4, hR3, .cons rself (rv.mo (m1.trans m3)), e4, g4⟩
  exact ⟨ι, h, ρ, r1, hR, hn, e1, g1⟩
end
end Ev

set_option Elab.async false
set_option linter.all false
set_option maxRecDepth 100000
set_option autoImplicit false
/-! Ev16: statements. -/
namespace Ev
open PySem PySem.Spec PyProof.Rows L2
open He (ga ma)

/-- a statement's end meets what is wanted -/
def GoodS (K : PySem.W.Frag) (ι : List Addr) (H : Hp) (r : SR) (D : Ends) (W : WX) : Prop :=
  match r with
  | .nx ρ h' => ∀ ι' H' σ', Ext K ι H ι' H' → R K ι' h' H' → Rn K ι' H' ρ σ' → D.nx σ' H'
  | .ret d h' => ∀ ι' H' v, Ext K ι H ι' H' → R K ι' h' H' → Rv K ι' H' d v → D.rt v H'
  | .brk ρ h' => ∀ ι' H' σ', Ext K ι H ι' H' → R K ι' h' H' → Rn K ι' H' ρ σ' → D.bk σ' H'
  | .cont ρ h' => ∀ ι' H' σ', Ext K ι H ι' H' → R K ι' h' H' → Rn K ι' H' ρ σ' → D.ct σ' H'
  | .exc c fs ρ h' => ∀ ι' H' σ' cls d, Ext K ι H ι' H' → R K ι' h' H' → Rn K ι' H' ρ σ' → RX K ι' H' c fs cls d → W cls d σ' H'
def tSR (K : PySem.W.Frag) (W : WX) (ev : En → Hb → Option SR) : TS := fun D σ H => ∃ ι h ρ r, R K ι h H ∧ Rn K ι H ρ σ ∧ ev ρ h = some r ∧ GoodS K ι H r D W
section
variable {K : PySem.W.Frag} {ι ι1 : List Addr} {H H1 : Hp} {D : Ends} {W : WX} {r : SR} {ρ : En} {σ : L2.St}
theorem GoodS.lift (g : GoodS K ι H r D W) (x : Ext K ι H ι1 H1) : GoodS K ι1 H1 r D W := by
  cases r with
  | nx ρ h => exact fun ι' H' σ' y => g ι' H' σ' (x.trans y)
  | ret d h => exact fun ι' H' v y => g ι' H' v (x.trans y)
  | brk ρ h => exact fun ι' H' σ' y => g ι' H' σ' (x.trans y)
  | cont ρ h => exact fun ι' H' σ' y => g ι' H' σ' (x.trans y)
  | exc c fs ρ h => exact fun ι' H' σ' cls d y => g ι' H' σ' cls d (x.trans y)
theorem sB_good {α β : Type} {r1 : RO α} {f : α → Hb → Option SR} {Rel1 : List Addr → Hp → α → β → Prop} {Q1 : β → Hp → Prop} (e : sB ρ r1 f = some r) (g : GoodS K ι H r D W) (hn : Rn K ι H ρ σ)
    (h : ∀ (a : α) (h1 : Hb), r1 = some (.ok a h1) → f a h1 = some r → ∀ (ι' : List Addr) (H' : Hp) (b : β), Ext K ι H ι' H' → R K ι' h1 H' → Rel1 ι' H' a b → GoodS K ι' H' r D W → Rn K ι' H' ρ σ → Q1 b H') :
    ∃ r', r1 = some r' ∧ Good K ι H r' Rel1 Q1 (fun cls d H' => W cls d σ H') := by
  cases r1 with
  | none => simp [sB] at e
  | some r' =>
    refine ⟨r', rfl, ?_⟩
    cases r' with
    | ok a h1 => exact fun ι' H' b x hR rel => h a h1 rfl e ι' H' b x hR rel (g.lift x) (hn.mo x.toMo)
    | exc c fs h1 =>
      simp only [sB] at e
      cases e
      exact fun ι' H' cls d x hR rx => g ι' H' σ cls d x hR (hn.mo x.toMo) rx
end

section
variable {X : Cx} {F : Fn} {U : Above} {Wf : Nat} {W : WX} {pos pos' : Pos} {a b c e o i : Expr} {xa xb xe xo xi : Ex}
abbrev tS (K : PySem.W.Frag) (F : Fn) (U : Above) (Wf : Nat) (W : WX) (s : Sx) : TS := tSR K W (evS F U Wf s)
abbrev tSs (K : PySem.W.Frag) (F : Fn) (U : Above) (Wf : Nat) (W : WX) (s : SxL) : TS := tSR K W (evSs F U Wf s)
theorem _root_.L2.PS.imp {X : Cx} {s : Stmt} {t t' : TS} (p : PS X s t') (h : ∀ D σ H, t D σ H → t' D σ H) : PS X s t := ⟨fun pins s σ H D I q => p.run pins s σ H D I (h D σ H q)⟩
theorem _root_.L2.PSs.imp {X : Cx} {s : List Stmt} {t t' : TS} (p : PSs X s t') (h : ∀ D σ H, t D σ H → t' D σ H) : PSs X s t := ⟨fun pins s σ H D I q => p.run pins s σ H D I (h D σ H q)⟩

theorem sd_nil : PSs X [] (tSs X.K F U Wf W .nil) := by
  refine pss_nil.imp ?_
  rintro D σ H ⟨ι, h, ρ, r, hR, hn, he, g⟩
  simp only [evSs] at he; cases he
  exact g ι H σ Ext.refl hR hn
theorem sd_cons {st : Stmt} {sts : List Stmt} {x : Sx} {xs : SxL} (h1 : PS X st (tS X.K F U Wf W x)) (h2 : PSs X sts (tSs X.K F U Wf W xs)) : PSs X (st :: sts) (tSs X.K F U Wf W (.cons x xs)) := by
  refine (pss_cons h1 h2).imp ?_
  rintro D σ H ⟨ι, h, ρ, r, hR, hn, he, g⟩
  simp only [evSs] at he
  cases e1 : evS F U Wf x ρ h with
  | none => rw [e1] at he; cases he
  | some r1 =>
    rw [e1] at he
    refine ⟨ι, h, ρ, r1, hR, hn, e1, ?_⟩
    cases r1 with
    | nx ρ1 h1 => exact fun ι' H' σ' x hR' hn' => ⟨ι', h1, ρ1, r, hR', hn', he, g.lift x⟩
    | ret d h1 => cases he; exact g
    | brk ρ1 h1 => cases he; exact g
    | cont ρ1 h1 => cases he; exact g
    | exc c fs ρ1 h1 => cases he; exact g
theorem sd_bad {st : Stmt} : PS X st (tS X.K F U Wf W .bad) := by
  refine ⟨fun pins s σ H D I q => ?_⟩
  obtain ⟨ι, h, ρ, r, hR, hn, he, g⟩ := q
  simp only [evS] at he; cases he
theorem sd_pass : PS X (.Pass pos) (tS X.K F U Wf W .pass) := by
  refine ps_pass.imp ?_
  rintro D σ H ⟨ι, h, ρ, r, hR, hn, he, g⟩
  simp only [evS] at he; cases he
  exact g ι H σ Ext.refl hR hn
theorem sd_brk : PS X (.Break pos) (tS X.K F U Wf W .brk) := by
  refine ps_break.imp ?_
  rintro D σ H ⟨ι, h, ρ, r, hR, hn, he, g⟩
  simp only [evS] at he; cases he
  exact g ι H σ Ext.refl hR hn
theorem sd_cont : PS X (.Continue pos) (tS X.K F U Wf W .cont) := by
  refine ps_continue.imp ?_
  rintro D σ H ⟨ι, h, ρ, r, hR, hn, he, g⟩
  simp only [evS] at he; cases he
  exact g ι H σ Ext.refl hR hn
theorem sd_retN : PS X (.Return none pos) (tS X.K F U Wf W .retN) := by
  refine ps_retN.imp ?_
  rintro D σ H ⟨ι, h, ρ, r, hR, hn, he, g⟩
  simp only [evS] at he; cases he
  exact g ι H .non Ext.refl hR .non
theorem sd_expr (he : PE X e (tE X.K F W xe)) (hs : swapsWith e none pos.line X.env = pure false) : PS X (.Expr e pos) (tS X.K F U Wf W (.expr xe)) := by
  refine (ps_expr he hs).imp ?_
  rintro D σ H ⟨ι, h, ρ, r, hR, hn, he, g⟩
  simp only [evS] at he
  obtain ⟨r1, e1, g1⟩ := sB_good (Rel1 := RelE X.K) (Q1 := fun _ H1 => D.nx σ H1) he g hn fun d h1 e1 he1 ι1 H1 v x1 hR1 rv g1 hn1 => by
    cases he1
    exact g1 ι1 H1 σ Ext.refl hR1 hn1
  exact ⟨ι, h, ρ, r1, hR, hn, e1, g1⟩
theorem sd_ret (he : PE X e (tE X.K F W xe)) : PS X (.Return (some e) pos) (tS X.K F U Wf W (.ret xe)) := by
  refine (ps_ret he).imp ?_
  rintro D σ H ⟨ι, h, ρ, r, hR, hn, he, g⟩
  simp only [evS] at he
  obtain ⟨r1, e1, g1⟩ := sB_good (Rel1 := RelE X.K) (Q1 := D.rt) he g hn fun d h1 e1 he1 ι1 H1 v x1 hR1 rv g1 hn1 => by
    cases he1
    exact g1 ι1 H1 v Ext.refl hR1 rv
  exact ⟨ι, h, ρ, r1, hR, hn, e1, g1⟩

/-! ### assignments -/
theorem asg_tg {g : Tg} {D : Ends} {σ : L2.St} {H : Hp} (q : tS X.K F U Wf W (.asg (.tg g) xe) D σ H) : tAsg (tE X.K F W xe) (rTg X.K g) D σ H := by
  obtain ⟨ι, h, ρ, r, hR, hn, he, g0⟩ := q
  simp only [evS] at he
  obtain ⟨r1, e1, g1⟩ := sB_good (Rel1 := RelE X.K) (Q1 := fun v H1 => rTg X.K g v σ H1 D.nx) he g0 hn fun d h1 e1 he1 ι1 H1 v x1 hR1 rv g1 hn1 => by
    split at he1
    · rename_i ρ' hb
      cases he1
      exact tg_ok hb hn1 rv fun σ' hn2 _ _ => g1 ι1 H1 σ' Ext.refl hR1 hn2
    · cases he1
  exact ⟨ι, h, ρ, r1, hR, hn, e1, g1⟩
theorem sd_set {x : Str} {j : Nat} (hN : X.N.Nodup) (ht : TgOk X (.Name x pos') (.nm j)) (he : PE X e (tE X.K F W xe)) (hs : swapsWith e (some (.Name x pos')) pos.line X.env = pure false) : PS X (.Assign [.Name x pos'] e pos) (tS X.K F U Wf W (.asg (.tg (.nm j)) xe)) := by
  cases ht with
  | nm h1 h2 h3 => exact (ps_set hN h1 h2 he hs h3).imp fun D σ H q => asg_tg q
theorem sd_asg {tg : Expr} {g : Tg} (hN : X.N.Nodup) (ht : TgOk X tg g) (he : PE X e (tE X.K F W xe)) (hs : swapsWithSole [tg] e pos.line X.env = pure false) (hw : swappedStores [tg] e X.env = pure none) (h1 : (assignEach [tg] X.env).map (·.2) = [assign tg X.env]) :
    PS X (.Assign [tg] e pos) (tS X.K F U Wf W (.asg (.tg g) xe)) := (ps_asg he (snd_tg hN ht) hs hw h1).imp fun D σ H q => asg_tg q
theorem sd_par {x y : Str} {j k : Nat} {px py pt pt2 : Pos} {kt k2 : Nat} (hc : X.calm = true) (hN : X.N.Nodup) (hi : X.N[j]? = some x) (hj : X.N[k]? = some y) (hij : j ≠ k) (hx : X.env.scope.names.lookup x = some .local) (hy : X.env.scope.names.lookup y = some .local)
    (ha : PEs X F W [a, b] (.cons xa (.cons xb .nil))) (hw : swappedStores [.Tuple [.Name x px, .Name y py] kt pt] (.Tuple [a, b] k2 pt2) X.env = pure (some [x, y])) (hs : swapsWithSole [.Tuple [.Name x px, .Name y py] kt pt] (.Tuple [a, b] k2 pt2) pos.line X.env = pure false) :
    PS X (.Assign [.Tuple [.Name x px, .Name y py] kt pt] (.Tuple [a, b] k2 pt2) pos) (tS X.K F U Wf W (.par j k xa xb)) := by
  refine (ps_par hc hN hi hj hij hx hy ha.pa hw hs).imp ?_
  rintro D σ H ⟨ι, h, ρ, r, hR, hn, he, g⟩
  simp only [evS] at he
  have he' : sB ρ (evL F (.cons xa (.cons xb .nil)) ρ h) (fun ds h2 => match ds with
      | [x, y] => some (.nx (setVar (setVar ρ j x) k y) h2)
      | _ => none) = some r := by
    rw [← he]
    simp only [evL]
    cases evE F xa ρ h with
    | none => rfl
    | some z =>
      cases z with
      | exc _ _ _ => rfl
      | ok d h1 =>
        simp only [bnd, sB]
        cases evE F xb ρ h1 with
        | none => rfl
        | some z => cases z <;> rfl
  obtain ⟨r1, e1, g1⟩ := sB_good (Rel1 := RelL X.K) (Q1 := fun vs H1 => ∃ v w, vs = [v, w] ∧ D.nx ((σ.set j (some v)).set k (some w)) H1) he' g hn fun ds h1 e1 he1 ι1 H1 vs x1 hR1 rv g1 hn1 => by
    split at he1
    · cases he1
      cases rv with | cons r1 t => cases t with | cons r2 t => cases t
                                                               exact ⟨_, _, rfl, g1 ι1 H1 _ Ext.refl hR1 ((hn1.set r1).set r2)⟩
    · cases he1
  exact ⟨ι, h, ρ, r1, hR, hn, e1, g1⟩
theorem putF_rkv {K : PySem.W.Frag} {ι : List Addr} {H : Hp} {fs : List (Str × D)} {ws : List (Str × V)} (r : Rkv K ι H fs ws) {f : Str} {d : D} {v : V} (q : Rv K ι H d v) : Rkv K ι H (putA f d fs) (putF f v ws) := by
  induction r with
  | nil => exact .cons ⟨rfl, q⟩ .nil
  | @cons p p' ps ps' a t ih =>
    obtain ⟨p1, p2⟩ := p
    obtain ⟨q1, q2⟩ := p'
    obtain ⟨e, rv⟩ := a
    simp only at e rv
    subst e
    unfold putA putF
    by_cases c : p1 = f
    · rw [if_pos c, if_pos c]; exact .cons ⟨rfl, q⟩ t
    · rw [if_neg c, if_neg c]; exact .cons ⟨rfl, rv⟩ ih
theorem putA_mem {f : Str} {d : D} {fs : List (Str × D)} {p : Str × D} (h : p ∈ putA f d fs) : p.1 = f ∨ ∃ q ∈ fs, q.1 = p.1 := by
  induction fs with
  | nil => simp [putA] at h; subst h; exact .inl rfl
  | cons q fs ih =>
    obtain ⟨q1, q2⟩ := q
    unfold putA at h
    by_cases c : q1 = f
    · rw [if_pos c] at h
      rcases List.mem_cons.mp h with rfl | h
      · exact .inl c
      · exact .inr ⟨p, by simp [h], rfl⟩
    · rw [if_neg c] at h
      rcases List.mem_cons.mp h with rfl | h
      · exact .inr ⟨_, by simp, rfl⟩
      · rcases ih h with h | ⟨z, hz, e⟩
        · exact .inl h
        · exact .inr ⟨z, by simp [hz], e⟩
theorem sd_fld {cn f : Str} (hno : NoAttr X.K (ga X.K cn) f) (ho : PE X o (tE X.K F W xo)) (he : PE X e (tE X.K F W xe)) (hs : swapsWith e (some (.Attribute o f pos')) pos.line X.env = pure false) : PS X (.Assign [.Attribute o f pos'] e pos) (tS X.K F U Wf W (.asg (.fld xo cn f) xe)) := by
  refine (ps_fld ho he hs).imp ?_
  rintro D σ H ⟨ι, h, ρ, r, hR, hn, he, g⟩
  simp only [evS] at he
  obtain ⟨r1, e1, g1⟩ := sB_good (Rel1 := RelE X.K) (Q1 := fun y H1 => tE X.K F W xo σ H1 fun x H2 => ∃ a C dx fs, x = .ref a ∧ H2 a = some (.ins C dx fs) ∧ Cls X.K C ∧ NoAttr X.K C f ∧ fs.length < 1000 ∧ D.nx σ (upd H2 a (.ins C dx (putF f y fs)))) he g hn fun d h1 e1 he1 ι1 H1 y x1 hR1 ry g1 hn1 => by
    obtain ⟨r2, e2, g2⟩ := sB_good (Rel1 := RelE X.K) (Q1 := fun x H2 => ∃ a C dx fs, x = .ref a ∧ H2 a = some (.ins C dx fs) ∧ Cls X.K C ∧ NoAttr X.K C f ∧ fs.length < 1000 ∧ D.nx σ (upd H2 a (.ins C dx (putF f y fs)))) he1 g1 hn1 fun x h2 e2 he2 ι2 H2 xv x2 hR2 rx g2 hn2 => by
      split at he2
      · rename_i h3 q
        cases he2
        unfold putFld at q
        split at q
        · rename_i n
          split at q
          · rename_i c fs ei
            split at q
            · rename_i hc
              obtain ⟨rfl, hl⟩ := hc
              cases q
              obtain ⟨p, rfl, ea⟩ := rx.ref_inv
              obtain ⟨dx, ws, hw, rf, cl, hnof⟩ := hR2.obj _ _ _ ei ea
              have m := Mo.put (u := .ins (ga X.K c) dx (putF f y ws)) hR2 ei ea rfl
              refine ⟨p, _, dx, ws, rfl, hw, cl, hno, by rw [← rf.length]; exact hl, ?_⟩
              refine g2 ι2 _ σ (Ext.put hR2 ei ea rfl) (hR2.put ei ea rfl rfl ⟨dx, _, upd_same, (putF_rkv rf (ry.mo x2.toMo)).mo m, cl, fun p hp => ?_⟩) (hn2.mo m)
              rcases putA_mem hp with h | ⟨z, hz, h⟩
              · rw [h]; exact hno
              · rw [← h]; exact hnof z hz
            · cases q
          · cases q
        · cases q
      · cases he2
    exact ⟨ι1, h1, ρ, r2, hR1, hn1, e2, g2⟩
  exact ⟨ι, h, ρ, r1, hR, hn, e1, g1⟩
theorem putSub_ok {K : PySem.W.Frag} {ι : List Addr} {H : Hp} {h h4 : Hb} {o i d : D} {ov iv v : V} (q : putSub h o i d = some h4) (hR : R K ι h H) (ro : Rv K ι H o ov) (ri : Rv K ι H i iv) (rv : Rv K ι H d v) {Q : Hp → Prop} (k : ∀ H', Ext K ι H ι H' → R K ι h4 H' → Q H') : rSetL ov iv v H Q := by
  unfold putSub at q
  split at q
  · rename_i n z
    split at q
    · rename_i xs ei
      rw [Option.map_eq_some_iff] at q
      obtain ⟨j, hj, rfl⟩ := q
      obtain ⟨p, rfl, ea⟩ := ro.ref_inv
      cases ri
      obtain ⟨us, hu, ru⟩ := lst_at hR ei ea
      refine ⟨p, us, z, j, rfl, rfl, hu, by rw [← ru.length]; exact hj, k _ (Ext.put hR ei ea rfl) (hR.put ei ea rfl rfl ⟨_, upd_same, ?_⟩)⟩
      exact (ru.set j rv).mo (Mo.put hR ei ea rfl)
    · cases q
  · cases q
theorem sd_sub (ho : PE X o (tE X.K F W xo)) (hi : PE X i (tE X.K F W xi)) (hns : noSlc i = true) (he : PE X e (tE X.K F W xe)) (hs : swapsWithSole [.Subscript o i pos'] e pos.line X.env = pure false)
    (ha : ∀ v, assign (.Subscript o i pos') X.env v = (do
      let ov ← holding [v] (eval o X.env)
      let iv ← holding [v, ov] (eval i X.env)
      standAt pos'
      holding [v, ov, iv] (setItem ov iv v)
      release [v, ov, iv] [])) :
    PS X (.Assign [.Subscript o i pos'] e pos) (tS X.K F U Wf W (.asg (.sub xo xi) xe)) := by
  refine (ps_asg he (pg_sub ho hi set_list ha) hs (by cases e <;> rfl) rfl).imp ?_
  rintro D σ H ⟨ι, h, ρ, r, hR, hn, he, g⟩
  simp only [evS] at he
  obtain ⟨r1, e1, g1⟩ := sB_good (Rel1 := RelE X.K) (Q1 := fun y H1 => tE X.K F W xo σ H1 fun x H2 => tE X.K F W xi σ H2 fun z H3 => rSetL x z y H3 fun H4 => D.nx σ H4) he g hn fun d h1 e1 he1 ι1 H1 y x1 hR1 ry g1 hn1 => by
    obtain ⟨r2, e2, g2⟩ := sB_good (Rel1 := RelE X.K) (Q1 := fun x H2 => tE X.K F W xi σ H2 fun z H3 => rSetL x z y H3 fun H4 => D.nx σ H4) he1 g1 hn1 fun x h2 e2 he2 ι2 H2 xv x2 hR2 rx g2 hn2 => by
      obtain ⟨r3, e3, g3⟩ := sB_good (Rel1 := RelE X.K) (Q1 := fun z H3 => rSetL xv z y H3 fun H4 => D.nx σ H4) he2 g2 hn2 fun z h3 e3 he3 ι3 H3 zv x3 hR3 rz g3 hn3 => by
        split at he3
        · rename_i h4 q
          cases he3
          exact putSub_ok q hR3 (rx.mo x3.toMo) rz ((ry.mo x2.toMo).mo x3.toMo) fun H' xx rr => g3 ι3 H' σ xx rr (hn3.mo xx.toMo)
        · cases he3
      exact ⟨ι2, h2, ρ, r3, hR2, hn2, e3, g3⟩
    exact ⟨ι1, h1, ρ, r2, hR1, hn1, e2, g2⟩
  exact ⟨ι, h, ρ, r1, hR, hn, e1, g1⟩

/-! ### augmented -/
def rAugI (op : Operator) : Int → Int → Int := match op with
  | .Sub => fun i j => i - j
  | _ => fun i j => i + j
def augOp (op : Operator) : Bool := match op with
  | .Add => true
  | .Sub => true
  | _ => false
theorem ip_aug {op : Operator} (h : augOp op = true) : PIp X op (ipI (rAugI op)) := by
  cases op <;> simp [augOp] at h
  · exact ip_add
  · exact ip_sub
theorem aug_ok {K : PySem.W.Frag} {ι : List Addr} {H : Hp} {op : Operator} {x y z : D} {v u : V} (e : augD op x y = some z) (rx : Rv K ι H x v) (ry : Rv K ι H y u) {Q : VK} (k : ∀ w, Rv K ι H z w → Q w H) : ipI (rAugI op) v u H Q := by
  unfold augD at e
  split at e
  · cases e; cases rx; cases ry; exact ⟨_, _, rfl, rfl, k _ (.int _)⟩
  · cases e; cases rx; cases ry; exact ⟨_, _, rfl, rfl, k _ (.int _)⟩
  · cases e
theorem sd_aug {x : Str} {j : Nat} {op : Operator} (hop : augOp op = true) (hN : X.N.Nodup) (ht : TgOk X (.Name x pos') (.nm j)) (he : PE X e (tE X.K F W xe)) : PS X (.AugAssign (.Name x pos') op e pos) (tS X.K F U Wf W (.aug j op xe)) := by
  cases ht with
  | nm h1 h2 h3 =>
    refine (ps_aug hN h1 h2 he (ip_aug hop) h3).imp ?_
    rintro D σ H ⟨ι, h, ρ, r, hR, hn, he, g⟩
    simp only [evS] at he
    split at he
    · cases he
    · rename_i d ev
      have e' : ρ[j]? = some (some d) := by
        unfold getVar at ev
        split at ev
        · rename_i d' q; cases ev; exact q
        · cases ev
      obtain ⟨v, e1, q⟩ := hn.at_ j d e'
      refine ⟨v, e1, ?_⟩
      obtain ⟨r1, e1, g1⟩ := sB_good (Rel1 := RelE X.K) (Q1 := fun y H1 => ipI (rAugI op) v y H1 fun z H2 => D.nx (σ.set j (some z)) H2) he g hn fun y h1 e1 he1 ι1 H1 yv x1 hR1 ry g1 hn1 => by
        split at he1
        · rename_i z hz
          cases he1
          exact aug_ok hz (q.mo x1.toMo) ry fun w rw' => g1 ι1 H1 _ Ext.refl hR1 (hn1.set rw')
        · cases he1
      exact ⟨ι, h, ρ, r1, hR, hn, e1, g1⟩
/-- the item of a list at a place from the left -/
def rGetL (K : PySem.W.Frag) : V → V → Hp → VK → Prop := fun x y H Q => ∃ p xs i v, x = .ref p ∧ y = .int i ∧ SqL K H p xs ∧ 0 ≤ i ∧ xs[i.toNat]? = some v ∧ Q v H
theorem get_listL : PGet X (rGetL X.K) := by
  intro pins s σ H x y v u Q I rx ry h
  obtain ⟨p, xs, k, z, rfl, rfl, hq, h0, he, q⟩ := h
  cases rx
  obtain ⟨t, rfl⟩ := ry
  obtain ⟨its, r, pl, hz⟩ := I.list hq
  obtain ⟨w, ew, rw'⟩ := r.get he
  have hl := r.length
  have hlt := (List.getElem?_eq_some_iff.mp he).1
  have hn := line63
  exact wpAny_getItem_list pl.isList h0 (by omega) (by simpa using ew) ⟨z, H, I, rw', q⟩
theorem sd_augS {op : Operator} (hop : augOp op = true) (ho : PE X o (tE X.K F W xo)) (hi : PE X i (tE X.K F W xi)) (he : PE X e (tE X.K F W xe)) (ha : ∀ ov iv new, augStore i ov iv new = (do holding [new, ov, iv] (setItem ov iv new); release [new, ov, iv] []; pure .next)) :
    PS X (.AugAssign (.Subscript o i pos') op e pos) (tS X.K F U Wf W (.augS xo xi op xe)) := by
  refine (ps_augS ho hi get_listL he (ip_aug hop) set_list ha).imp ?_
  rintro D σ H ⟨ι, h, ρ, r, hR, hn, he, g⟩
  simp only [evS] at he
  obtain ⟨r1, e1, g1⟩ := sB_good (Rel1 := RelE X.K) (Q1 := fun ov H1 => tE X.K F W xi σ H1 fun iv H2 => rGetL X.K ov iv H2 fun old H3 => tE X.K F W xe σ H3 fun y H4 => ipI (rAugI op) old y H4 fun z H5 => rSetL ov iv z H5 fun H6 => D.nx σ H6) he g hn fun x h1 e1 he1 ι1 H1 xv x1 hR1 rx g1 hn1 => by
    obtain ⟨r2, e2, g2⟩ := sB_good (Rel1 := RelE X.K) (Q1 := fun iv H2 => rGetL X.K xv iv H2 fun old H3 => tE X.K F W xe σ H3 fun y H4 => ipI (rAugI op) old y H4 fun z H5 => rSetL xv iv z H5 fun H6 => D.nx σ H6) he1 g1 hn1 fun y h2 e2 he2 ι2 H2 yv x2 hR2 ry g2 hn2 => by
      have rx2 := rx.mo x2.toMo
      split at he2
      · cases he2
      · rename_i v ev
        split at ev
        case isFalse => cases ev
        rename_i hns
        have shape : ∃ n k ds, x = .ref n ∧ y = .int k ∧ 0 ≤ k ∧ h2[n]? = some (.lst ds) ∧ ds[k.toNat]? = some v := by
          unfold nonNegIx at hns
          split at hns
          · rename_i n k
            simp only [decide_eq_true_eq] at hns
            simp only [idxD] at ev
            split at ev
            · rename_i ds q
              refine ⟨n, k, ds, rfl, rfl, hns, q, ?_⟩
              unfold ixD L2.atI L2.ixN at ev
              by_cases hlt : k < (ds.length : Int)
              · simpa [hns, hlt] using ev
              · simp [hns, hlt] at ev
            · cases ev
          · cases hns
        obtain ⟨n, k, ds, rfl, rfl, hk, ei, ev'⟩ := shape
        obtain ⟨p, rfl, ea⟩ := rx2.ref_inv
        cases ry
        obtain ⟨us, hu, ru⟩ := lst_at hR2 ei ea
        obtain ⟨w, hw, rw'⟩ := ru.get ev'
        refine ⟨p, us, k, w, rfl, rfl, SqL.of hu, hk, hw, ?_⟩
        obtain ⟨r3, e3, g3⟩ := sB_good (Rel1 := RelE X.K) (Q1 := fun y H4 => ipI (rAugI op) w y H4 fun z H5 => rSetL (.ref p) (.int k) z H5 fun H6 => D.nx σ H6) he2 g2 hn2 fun y h3 e3 he3 ι3 H3 yv x3 hR3 ry g3 hn3 => by
          split at he3
          · rename_i z hz
            refine aug_ok hz (rw'.mo x3.toMo) ry fun w2 rw2 => ?_
            split at he3
            · rename_i h4 q
              cases he3
              exact putSub_ok q hR3 (rx2.mo x3.toMo) (.int k) rw2 fun H' xx rr => g3 ι3 H' σ xx rr (hn3.mo xx.toMo)
            · cases he3
          · cases he3
        exact ⟨ι2, h2, ρ, r3, hR2, hn2, e3, g3⟩
    exact ⟨ι1, h1, ρ, r2, hR1, hn1, e2, g2⟩
  exact ⟨ι, h, ρ, r1, hR, hn, e1, g1⟩
end
end Ev

set_option Elab.async false
set_option linter.all false
set_option maxRecDepth 100000
set_option autoImplicit false
/-! Ev17: branches, loops, exceptions. -/
namespace Ev
open PySem PySem.Spec PyProof.Rows L2
open He (ga ma)

section
variable {X : Cx} {F : Fn} {U : Above} {Wf : Nat} {W : WX} {pos pos' : Pos} {a b c e o i : Expr} {xa xb xe xo xi : Ex}
theorem sd_if {t : Expr} {s1 s2 : List Stmt} {xt : Tx} {x1 x2 : SxL} (ht : PT X t (tT X.K F W xt)) (h1 : PSs X s1 (tSs X.K F U Wf W x1)) (h2 : PSs X s2 (tSs X.K F U Wf W x2)) : PS X (.If t s1 s2 pos) (tS X.K F U Wf W (.ifs xt x1 x2)) := by
  refine (ps_if ht h1 h2).imp ?_
  rintro D σ H ⟨ι, h, ρ, r, hR, hn, he, g⟩
  simp only [evS] at he
  obtain ⟨r1, e1, g1⟩ := sB_good (Rel1 := RelB) (Q1 := fun b H1 => if b = true then tSs X.K F U Wf W x1 D σ H1 else tSs X.K F U Wf W x2 D σ H1) he g hn fun d h1 e1 he1 ι1 H1 v x1 hR1 rv g1 hn1 => by
    cases rv
    cases d with
    | true => simp only [if_true]; exact ⟨ι1, h1, ρ, r, hR1, hn1, he1, g1⟩
    | false => simp only [Bool.false_eq_true, if_false]; exact ⟨ι1, h1, ρ, r, hR1, hn1, he1, g1⟩
  exact ⟨ι, h, ρ, r1, hR, hn, e1, g1⟩

/-! ### loops -/
theorem for_turns {g : Tg} {body : SxL} {J : It} {L : L2.It} {D : Ends} {σ : L2.St} {ρ : En} {ι1 : List Addr} {H1 : Hp} {h1 : Hb} {r : SR} {n : Nat} (he : forLoop J g (evSs F U Wf body) n 0 ρ h1 = some r) (hR : R X.K ι1 h1 H1) (hn : Rn X.K ι1 H1 ρ σ) (sim : Sim X.K ι1 H1 J L) (g1 : GoodS X.K ι1 H1 r D W) :
    ∃ Wv : Nat → Nat → L2.St → Hp → Prop, (∃ m, Wv 0 m σ H1) ∧ ∀ i m σ H, Wv i m σ H →
      (L.stop i H ∧ D.nx σ H) ∨ (L.go i H ∧ ∃ N : L2.St → Hp → Prop, (∀ σ' H', N σ' H' → ∃ m', m' < m ∧ Wv (i + 1) m' σ' H') ∧ ∀ x H', L.yld i H x H' → rTg X.K g x σ H' fun σ2 H2 => tSs X.K F U Wf W body { D with nx := N, ct := N, bk := D.nx } σ2 H2) := by
  refine ⟨fun i m σ H => ∃ ι' h' ρ', Ext X.K ι1 H1 ι' H ∧ R X.K ι' h' H ∧ Rn X.K ι' H ρ' σ ∧ forLoop J g (evSs F U Wf body) m i ρ' h' = some r, ⟨n, ι1, h1, ρ, Ext.refl, hR, hn, he⟩, ?_⟩
  rintro i m σ H ⟨ι', h', ρ', x, hR', hn', ev⟩
  have sim' := sim.ext x
  cases m with
  | zero => simp [forLoop] at ev
  | succ m =>
    simp only [forLoop] at ev
    cases ea : J.at h' i with
    | none => rw [ea] at ev; cases ev
    | some od =>
      rw [ea] at ev
      cases od with
      | none => cases ev; exact .inl ⟨sim'.stop hR' ea, g1 ι' H σ x hR' hn'⟩
      | some d =>
        obtain ⟨go, yl⟩ := sim'.go hR' ea
        refine .inr ⟨go, fun σ' H' => ∃ m', m' < m + 1 ∧ ∃ ι' h' ρ', Ext X.K ι1 H1 ι' H' ∧ R X.K ι' h' H' ∧ Rn X.K ι' H' ρ' σ' ∧ forLoop J g (evSs F U Wf body) m' (i + 1) ρ' h' = some r, fun σ' H' nx => nx, ?_⟩
        intro y H2 yx
        obtain ⟨x2, hR2, rv⟩ := yl y H2 yx
        simp only at ev
        split at ev
        · cases ev
        · rename_i ρ2 hb
          refine tg_ok hb (hn'.mo x2.toMo) rv fun σ2 hn2 _ _ => ?_
          have x12 := x.trans x2
          split at ev
          · rename_i ρ3 h3 eb
            exact ⟨ι', h', ρ2, _, hR2, hn2, eb, fun ι4 H4 σ4 x4 hR4 hn4 => ⟨m, Nat.lt_succ_self m, ι4, h3, ρ3, x12.trans x4, hR4, hn4, ev⟩⟩
          · rename_i ρ3 h3 eb
            exact ⟨ι', h', ρ2, _, hR2, hn2, eb, fun ι4 H4 σ4 x4 hR4 hn4 => ⟨m, Nat.lt_succ_self m, ι4, h3, ρ3, x12.trans x4, hR4, hn4, ev⟩⟩
          · rename_i ρ3 h3 eb
            cases ev
            exact ⟨ι', h', ρ2, _, hR2, hn2, eb, fun ι4 H4 σ4 x4 hR4 hn4 => g1 ι4 H4 σ4 (x12.trans x4) hR4 hn4⟩
          · rename_i n1 n2 n3
            refine ⟨ι', h', ρ2, r, hR2, hn2, ev, ?_⟩
            have g2 := g1.lift x12
            cases r with
            | nx ρ3 h3 => exact absurd ev (n1 ρ3 h3)
            | cont ρ3 h3 => exact absurd ev (n2 ρ3 h3)
            | brk ρ3 h3 => exact absurd ev (n3 ρ3 h3)
            | ret d h3 => exact g2
            | exc c fs ρ3 h3 => exact g2
theorem sd_for {tg iter : Expr} {body : List Stmt} {g : Tg} {it : Itx} {xb : SxL} (hp : PassesOwn (model X.prog X.w) X.A X.env X.xe) (hc : X.calm = true) (hN : X.N.Nodup) (hi : PI X tg iter (tI X.K F W it)) (ht : TgOk X tg g) (hb : PSs X body (tSs X.K F U Wf W xb))
    (hs : ∀ x, foldedSetIterable iter X.env x = pure x) : PS X (.For tg iter body [] pos) (tS X.K F U Wf W (.fors g it xb)) := by
  refine (ps_for hp hc hi (snd_tg hN ht) hb hs).imp ?_
  rintro D σ H ⟨ι, h, ρ, r, hR, hn, he, g0⟩
  simp only [evS] at he
  obtain ⟨r1, e1, g1⟩ := sB_good (Rel1 := RelI X.K) (Q1 := fun L H1 => ∃ Wv : Nat → Nat → L2.St → Hp → Prop, (∃ m, Wv 0 m σ H1) ∧ ∀ i m σ H, Wv i m σ H →
      (L.stop i H ∧ D.nx σ H) ∨ (L.go i H ∧ ∃ N : L2.St → Hp → Prop, (∀ σ' H', N σ' H' → ∃ m', m' < m ∧ Wv (i + 1) m' σ' H') ∧ ∀ x H', L.yld i H x H' → rTg X.K g x σ H' fun σ2 H2 => tSs X.K F U Wf W xb { D with nx := N, ct := N, bk := D.nx } σ2 H2)) he g0 hn
    fun J h1 e1 he1 ι1 H1 L x1 hR1 sim g1 hn1 => for_turns he1 hR1 hn1 sim g1
  exact ⟨ι, h, ρ, r1, hR, hn, e1, g1⟩
theorem Ext.unlock {K : PySem.W.Frag} {ι ι' : List Addr} {H H' : Hp} {d : Addr} {u1 u2 : HO} {ws : List (List L2.Key × V)} (x : Ext K ι (upd H d u1) ι' H') (hd : H d = some (.dT ws)) (hm : d ∈ ι) : Ext K ι H ι' (upd H' d u2) := by
  have ne : ∀ {a : Addr} {w : HO}, H a = some w → (∀ ws, w ≠ .dT ws) → a ≠ d := fun {a w} e n z => by rw [z, hd] at e; cases e; exact n _ rfl
  refine ⟨⟨x.pre, fun a vs e => ?_, fun a o vs e => ?_⟩, fun a o n e => ?_, fun a o u e => ?_⟩
  · have h := ne e (by simp); rw [upd_ne h]; exact x.tups a vs (by rw [upd_ne h]; exact e)
  · have h := ne e (by simp); rw [upd_ne h]; exact x.lsts a o vs (by rw [upd_ne h]; exact e)
  · have h : a ≠ d := fun z => n (by rw [z]; exact hm)
    obtain ⟨e1, n1⟩ := x.frame a o n (by rw [upd_ne h]; exact e)
    exact ⟨by rw [upd_ne h]; exact e1, n1⟩
  · have h := ne e (by simp); rw [upd_ne h]; exact x.frzs a o u (by rw [upd_ne h]; exact e)
theorem vals_rvs {K : PySem.W.Frag} {ι : List Addr} {H : Hp} {kvs : List (List L2.Key × D)} {ws : List (List L2.Key × V)} (r : Rkv K ι H kvs ws) : Rvs K ι H (kvs.map (·.2)) (ws.map (·.2)) := by
  induction r with
  | nil => exact .nil
  | cons z t ih => exact .cons z.2 ih
/-- for x in d.values(): the dict stays as it is through the loop -/
theorem sd_forV {tg : Expr} {x : Str} {p2 apos cpos : Pos} {j : Nat} {body : List Stmt} {g : Tg} {xb : SxL} (hp : PassesOwn (model X.prog X.w) X.A X.env X.xe) (hc : X.calm = true) (hN : X.N.Nodup) (hx : X.N[j]? = some x) (hv : Vis X.env.scope x) (hd : (x == ("__debug__" : Str)) = false) (hcd : (x == ("__classdict__" : Str)) = false)
    (ht : TgOk X tg g) (hb : PSs X body (tSs X.K F U Wf W xb)) (hl : (apos.endLine == cpos.line) = true) : PS X (.For tg (.Call (.Attribute (.Name x p2) "values" apos) [] [] cpos) body [] pos) (tS X.K F U Wf W (.forV g j xb)) := by
  refine (ps_lock (ps_for hp hc (pi_valuesT (snd_var (F := F) (W := W) hx hv hd hcd) (attr_base rfl) hl) (snd_tg hN ht) hb (fun _ => rfl))).imp ?_
  rintro D σ H ⟨ι, h, ρ, r, hR, hn, he, g0⟩
  simp only [evS] at he
  split at he
  · rename_i n ev
    split at he
    · rename_i kvs ek
      cases el : forLoop (.tup (kvs.map (·.2))) g (evSs F U Wf xb) (kvs.length + 1) 0 ρ (h.set n (.frz (.dt kvs))) with
      | none => rw [el] at he; cases he
      | some rl =>
        rw [el] at he
        simp only [Option.bind_some] at he
        have ev' : ρ[j]? = some (some (.ref n)) := by
          unfold getVar at ev
          split at ev
          · rename_i d' q; cases ev; exact q
          · cases ev
        obtain ⟨v, hσ, rv⟩ := hn.at_ j _ ev'
        obtain ⟨d, rfl, ea⟩ := rv.ref_inv
        obtain ⟨ws, hw, rk⟩ := hR.obj _ _ _ ek ea
        refine ⟨d, .dT ws, hw, trivial, fun od => ?_⟩
        have m := Mo.put (u := .frz od (.dT ws)) hR ek ea rfl
        have hRl : R X.K ι (h.set n (.frz (.dt kvs))) (upd H d (.frz od (.dT ws))) := hR.put ek ea rfl rfl ⟨od, ws, upd_same, rk.mo m⟩
        have xl := Ext.put (u := .frz od (.dT ws)) hR ek ea rfl
        have nlt : n < (h.set n (.frz (.dt kvs))).length := by simpa using (List.getElem?_eq_some_iff.mp ek).1
        -- an end within the loop, opened again
        have back : ∀ {ι' : List Addr} {H' : Hp} {h2 h3 : Hb}, unlock n h2 = some h3 → Ext X.K ι (upd H d (.frz od (.dT ws))) ι' H' → R X.K ι' h2 H' → H' d = some (.frz od (.dT ws)) ∧ Ext X.K ι H ι' (upd H' d (.dT ws)) ∧ R X.K ι' h3 (upd H' d (.dT ws)) ∧ Mo X.K ι' H' ι' (upd H' d (.dT ws)) := fun {ι' H' h2 h3} eu x hR' => by
          have hf := x.frzs d od (.dT ws) upd_same
          unfold unlock at eu
          split at eu
          · rename_i o eo
            cases eu
            have ea' := x.pre _ _ ea
            have ro := hR'.obj _ _ _ eo ea'
            cases o with
            | dt kvs' =>
              obtain ⟨od', ws', hw', rk'⟩ := ro
              rw [hf] at hw'
              cases hw'
              have mb := Mo.put (u := .dT ws) hR' eo ea' rfl
              exact ⟨hf, x.unlock hw (List.mem_of_getElem? ea), hR'.put eo ea' rfl rfl ⟨ws, upd_same, rk'.mo mb⟩, mb⟩
            | _ => exact ro.elim
          · cases eu
        have gl : GoodS X.K ι (upd H d (.frz od (.dT ws))) rl ⟨fun σ' H' => H' d = some (.frz od (.dT ws)) ∧ D.nx σ' (upd H' d (.dT ws)), fun v H' => H' d = some (.frz od (.dT ws)) ∧ D.rt v (upd H' d (.dT ws)), fun σ' H' => H' d = some (.frz od (.dT ws)) ∧ D.bk σ' (upd H' d (.dT ws)), fun σ' H' => H' d = some (.frz od (.dT ws)) ∧ D.ct σ' (upd H' d (.dT ws))⟩ W := by
          cases rl with
          | nx ρ2 h2 =>
            simp only [unlockS, Option.map_eq_some_iff] at he
            obtain ⟨h3, eu, rfl⟩ := he
            intro ι' H' σ' x hR' hn'
            obtain ⟨b1, b2, b3, b4⟩ := back eu x hR'
            exact ⟨b1, g0 ι' _ σ' b2 b3 (hn'.mo b4)⟩
          | brk ρ2 h2 =>
            simp only [unlockS, Option.map_eq_some_iff] at he
            obtain ⟨h3, eu, rfl⟩ := he
            intro ι' H' σ' x hR' hn'
            obtain ⟨b1, b2, b3, b4⟩ := back eu x hR'
            exact ⟨b1, g0 ι' _ σ' b2 b3 (hn'.mo b4)⟩
          | cont ρ2 h2 =>
            simp only [unlockS, Option.map_eq_some_iff] at he
            obtain ⟨h3, eu, rfl⟩ := he
            intro ι' H' σ' x hR' hn'
            obtain ⟨b1, b2, b3, b4⟩ := back eu x hR'
            exact ⟨b1, g0 ι' _ σ' b2 b3 (hn'.mo b4)⟩
          | ret d2 h2 =>
            simp only [unlockS, Option.map_eq_some_iff] at he
            obtain ⟨h3, eu, rfl⟩ := he
            intro ι' H' v x hR' rv'
            obtain ⟨b1, b2, b3, b4⟩ := back eu x hR'
            exact ⟨b1, g0 ι' _ v b2 b3 (rv'.mo b4)⟩
          | exc _ _ _ _ => simp [unlockS] at he
        refine ⟨ι, _, ρ, .ok (.ref n) _, hRl, hn.mo m, by simp only [evE]; rw [ev], good_ok fun ι1 H1 v1 x1 hR1 rv1 => ?_⟩
        obtain ⟨d1, rfl, ea1⟩ := rv1.ref_inv
        have : d1 = d := by
          have := x1.pre _ _ ea
          rw [this] at ea1; cases ea1; rfl
        subst this
        have hf1 := x1.frzs d1 od (.dT ws) upd_same
        refine ⟨d1, od, ws, rfl, hf1, ?_⟩
        exact for_turns el hR1 ((hn.mo m).mo x1.toMo) (.inr ⟨d1, od, ws, hf1, ((vals_rvs rk).mo m).mo x1.toMo, rfl⟩) (gl.lift x1)
    · cases he
  · cases he
theorem sd_while {t : Expr} {body : List Stmt} {xt : Tx} {xb : SxL} (hp : PassesOwn (model X.prog X.w) X.A X.env X.xe) (ht : PT X t (tT X.K F W xt)) (hb : PSs X body (tSs X.K F U Wf W xb)) : PS X (.While t body [] pos) (tS X.K F U Wf W (.whil xt xb)) := by
  refine (ps_while hp ht hb).imp ?_
  rintro D σ H ⟨ι, h, ρ, r, hR, hn, he, g⟩
  simp only [evS] at he
  refine ⟨fun m σ H' => ∃ ι' h' ρ', Ext X.K ι H ι' H' ∧ R X.K ι' h' H' ∧ Rn X.K ι' H' ρ' σ ∧ whileLoop (evT F xt) (evSs F U Wf xb) m ρ' h' = some r, ⟨Wf, ι, h, ρ, Ext.refl, hR, hn, he⟩, ?_⟩
  rintro m σ1 H1 ⟨ι1, h1, ρ1, x1, hR1, hn1, ev⟩
  cases m with
  | zero => simp [whileLoop] at ev
  | succ m =>
    simp only [whileLoop] at ev
    obtain ⟨r1, e1, g1⟩ := sB_good (Rel1 := RelB) (Q1 := fun b H2 => if b = true then ∃ N : L2.St → Hp → Prop, (∀ σ' H', N σ' H' → ∃ m', m' < m + 1 ∧ ∃ ι' h' ρ', Ext X.K ι H ι' H' ∧ R X.K ι' h' H' ∧ Rn X.K ι' H' ρ' σ' ∧ whileLoop (evT F xt) (evSs F U Wf xb) m' ρ' h' = some r) ∧ tSs X.K F U Wf W xb { D with nx := N, ct := N, bk := D.nx } σ1 H2 else D.nx σ1 H2) ev (g.lift x1) hn1 fun b h2 e2 ev2 ι2 H2 b' x2 hR2 rb g2 hn2 => by
      cases rb
      cases b with
      | false => simp only [Bool.false_eq_true, if_false]; cases ev2; exact g2 ι2 H2 σ1 Ext.refl hR2 hn2
      | true =>
        simp only [if_true]
        have x12 := x1.trans x2
        refine ⟨fun σ' H' => ∃ m', m' < m + 1 ∧ ∃ ι' h' ρ', Ext X.K ι H ι' H' ∧ R X.K ι' h' H' ∧ Rn X.K ι' H' ρ' σ' ∧ whileLoop (evT F xt) (evSs F U Wf xb) m' ρ' h' = some r, fun σ' H' nx => nx, ?_⟩
        simp only at ev2
        split at ev2
        · rename_i ρ3 h3 eb
          exact ⟨ι2, h2, ρ1, _, hR2, hn2, eb, fun ι4 H4 σ4 x4 hR4 hn4 => ⟨m, Nat.lt_succ_self m, ι4, h3, ρ3, x12.trans x4, hR4, hn4, ev2⟩⟩
        · rename_i ρ3 h3 eb
          exact ⟨ι2, h2, ρ1, _, hR2, hn2, eb, fun ι4 H4 σ4 x4 hR4 hn4 => ⟨m, Nat.lt_succ_self m, ι4, h3, ρ3, x12.trans x4, hR4, hn4, ev2⟩⟩
        · rename_i ρ3 h3 eb
          cases ev2
          exact ⟨ι2, h2, ρ1, _, hR2, hn2, eb, fun ι4 H4 σ4 x4 hR4 hn4 => g2 ι4 H4 σ4 x4 hR4 hn4⟩
        · rename_i n1 n2 n3
          refine ⟨ι2, h2, ρ1, r, hR2, hn2, ev2, ?_⟩
          cases r with
          | nx ρ3 h3 => exact absurd ev2 (n1 ρ3 h3)
          | cont ρ3 h3 => exact absurd ev2 (n2 ρ3 h3)
          | brk ρ3 h3 => exact absurd ev2 (n3 ρ3 h3)
          | ret d h3 => exact g2
          | exc c fs ρ3 h3 => exact g2
    exact ⟨ι1, h1, ρ1, r1, hR1, hn1, e1, g1⟩

/-! ### exceptions -/
theorem sd_raise {cn : Str} (hc : X.calm = true) (tk : Takes X W) (hm : PMk X e (fun _ H Q => Q (.ref (ga X.K cn)) none H)) : PS X (.Raise (some e) none pos) (tS X.K F U Wf W (.raise cn)) := by
  refine (ps_raise hc tk hm).imp ?_
  rintro D σ H ⟨ι, h, ρ, r, hR, hn, he, g⟩
  simp only [evS] at he
  cases he
  exact g ι H σ _ none Ext.refl hR hn ⟨rfl, .inl ⟨rfl, rfl⟩⟩
theorem sd_try {x cn : Str} {body suite : List Stmt} {b0 : Stmt} {np : Pos} {xb xs : SxL} (hs : X.stack = X.env :: X.outer) (hf : X.env.frame = some X.env.locals) (hc : Names X x (.ref (ga X.K cn))) (tk : Takes X W)
    (hU : ∀ c' b, U c' cn = some b → PySem.W.exmOne X.K (.ref (ga X.K c')) (.ref (ga X.K cn)) = some b)
    (hb : ∀ (W' : WX) (pn : List (Addr × Obj)) (xe : Value → Shared → Prop), Takes (X.tr pn xe) W' → PassesOwn (model X.prog X.w) X.A X.env xe → PSs (X.tr pn xe) body (tSs X.K F U Wf W' xb))
    (hsu : ∀ (a : Addr) (pn : List (Addr × Obj)), PSs (X.suite a pn) (b0 :: suite) (tSs X.K F U Wf WN xs)) :
    PS X (.Try body [.ExceptHandler (some (.Name x np)) none (b0 :: suite) pos'] [] [] pos) (tS X.K F U Wf W (.tryO cn xb xs)) := by
  refine (ps_try_only (c := .ref (ga X.K cn)) (Wout := W) (tb := fun W' => tSs X.K F U Wf W' xb) (ts := fun _ _ _ => tSs X.K F U Wf WN xs) hs hf hc tk hb (fun a oe cls d pn _ _ => hsu a _)).imp ?_
  rintro D σ H ⟨ι, h, ρ, r, hR, hn, he, g⟩
  simp only [evS] at he
  cases e1 : evSs F U Wf xb ρ h with
  | none => rw [e1] at he; cases he
  | some r1 =>
    rw [e1] at he
    refine ⟨ι, h, ρ, r1, hR, hn, e1, ?_⟩
    cases r1 with
    | nx ρ1 h1 => cases he; exact g
    | ret d h1 => cases he; exact g
    | brk ρ1 h1 => cases he; exact g
    | cont ρ1 h1 => cases he; exact g
    | exc c' fs ρ1 h1 =>
      intro ι' H' σ' cls d x hR' hn' rx
      obtain ⟨rfl, rfs⟩ := id rx
      simp only at he
      split at he
      · rename_i hu
        refine ⟨true, hU _ _ hu, fun _ a ha => ?_, fun z => by cases z⟩
        cases e2 : evSs F U Wf xs ρ1 h1 with
        | none => rw [e2] at he; cases he
        | some r2 =>
          rw [e2] at he
          cases r2 with
          | exc _ _ _ _ => cases he
          | nx ρ2 h2 => cases he; exact ⟨ι', h1, ρ1, _, hR', hn', e2, g.lift x⟩
          | ret d2 h2 => cases he; exact ⟨ι', h1, ρ1, _, hR', hn', e2, g.lift x⟩
          | brk ρ2 h2 => cases he; exact ⟨ι', h1, ρ1, _, hR', hn', e2, g.lift x⟩
          | cont ρ2 h2 => cases he; exact ⟨ι', h1, ρ1, _, hR', hn', e2, g.lift x⟩
      · rename_i hu
        cases he
        exact ⟨false, hU _ _ hu, (fun z => by cases z), fun _ => g ι' H' σ' _ d x hR' hn' rx⟩
      · cases he
/-- name = [..] -/
theorem sd_setC {j : Nat} {st : Stmt} (h : PS X st (tAsg (tE X.K F W xe) (gName j))) : PS X st (tS X.K F U Wf W (.asg (.tg (.nm j)) xe)) := h.imp fun D σ H q => asg_tg (g := .nm j) q
end
end Ev

set_option Elab.async false
set_option linter.all false
set_option maxRecDepth 100000
set_option autoImplicit false
/-! Ev18: a text is what a syntax of ours says (a check that runs), and then it does what the evaluator says: expressions. -/
namespace Ev
open PySem PySem.Spec PyProof.Rows L2
open He (ga ma)

/-- what the module's names are -/
structure Gi where
  fns : List Str
  cls : List Str
  excs : List Str
  gi1 : List (Str × Int)
  gi2 : List (Str × List D)
  free : List Str
  noat : List (Str × Str)
/-- where a text stands -/
structure Ci where
  N : List Str
  sc : Scope
  fn : Str → Bool
  calm : Bool
  top : Bool
def Ci.sub (ci : Ci) (scope : Scope) : Ci := { N := ci.N, sc := relS scope ci.sc, fn := fun x => scope.names.lookup x == some .cell, calm := ci.calm, top := false }

section
variable (ci : Ci) (gi : Gi)
def vis (sc : Scope) (x : Str) : Bool := match sc.names.lookup x with
  | some .local | some .cell | some .free => true
  | _ => false
def loc (sc : Scope) (x : Str) : Bool := match sc.names.lookup x with
  | some .local | some .cell => true
  | _ => false
def lcl (sc : Scope) (x : Str) : Bool := match sc.names.lookup x with
  | some .local => true
  | _ => false
def glb (sc : Scope) (x : Str) : Bool := match sc.names.lookup x with
  | some .globalImplicit => true
  | _ => false
def nmOk (x : Str) : Bool := !(x == ("__debug__" : Str)) && !(x == ("__classdict__" : Str))
def noStar : Expr → Bool
  | .Starred _ _ => false
  | _ => true
def isLC : Expr → Bool
  | .ListComp _ _ _ _ => true
  | _ => false
def noCmp : Expr → Bool
  | .ListComp _ _ _ _ | .SetComp _ _ _ _ | .DictComp _ _ _ _ _ => false
  | _ => true
def noSet : Expr → Bool
  | .Set _ _ _ => false
  | _ => true
def plainT : Expr → Bool
  | .UnaryOp .Not _ _ | .BoolOp _ _ _ | .IfExp _ _ _ _ | .Compare _ _ _ _ => false
  | _ => true
def freeN (x : Str) : Bool := glb ci.sc x && decide (x ∈ gi.free)
def varC (i : Nat) : Expr → Bool
  | .Name x _ => decide (ci.N[i]? = some x) && vis ci.sc x && nmOk x
  | _ => false
def nameC (i : Nat) : Expr → Bool
  | .Name x _ => decide (ci.N[i]? = some x) && loc ci.sc x && (ci.fn x || lcl ci.sc x)
  | _ => false
def namesC : List Nat → List Expr → Bool
  | [], [] => true
  | i :: is, e :: es => nameC ci i e && namesC is es
  | _, _ => false
def tgC : Tg → Expr → Bool
  | .nm i, e => nameC ci i e
  | .tu is, .Tuple es _ _ => ci.calm && namesC ci is es
  | _, _ => false
def tyC (T : Ty) : Expr → Bool
  | .Name y _ => decide (y = tyN T) && freeN ci gi y
  | _ => false
def tysC : List Ty → List Expr → Bool
  | [], [] => true
  | T :: ts, e :: es => tyC ci gi T e && tysC ts es
  | _, _ => false
def keysC : List Str → List (Option Expr) → Bool
  | [], [] => true
  | s :: ss, some (.Constant (.str t) _ _) :: ks => decide (t = s) && keysC ss ks
  | _, _ => false
def ownOf (is : List Nat) : List (Str × Nat) := is.map fun i => ((ci.N[i]?).getD Str.empty, i)
def isYes : Tx → Bool
  | .yes => true
  | _ => false

mutual
def chkE (gi : Gi) (ci : Ci) : Ex → Expr → Bool
  | .var i, e => varC ci i e
  | .int i, e => match e with
    | .Constant (.int j) _ _ => decide (i = j)
    | _ => false
  | .bl i, e => match e with
    | .Constant (.bool j) _ _ => decide (i = j)
    | _ => false
  | .non, e => match e with
    | .Constant .none _ _ => true
    | _ => false
  | .str i, e => match e with
    | .Constant (.str j) _ _ => decide (i = j)
    | _ => false
  | .gint x i, e => match e with
    | .Name y _ => decide (y = x) && glb ci.sc x && decide ((x, i) ∈ gi.gi1) && nmOk x
    | _ => false
  | .gtup x ds, e => match e with
    | .Name y _ => decide (y = x) && glb ci.sc x && decide ((x, ds) ∈ gi.gi2) && nmOk x
    | _ => false
  | .bin op a b, e => match e with
    | .BinOp ea op' eb _ => decide (op' = op) && chkE gi ci a ea && chkE gi ci b eb
    | _ => false
  | .neg a, e => match e with
    | .UnaryOp .USub ea _ => chkE gi ci a ea
    | _ => false
  | .notv a, e => match e with
    | .UnaryOp .Not ea _ => chkE gi ci a ea
    | _ => false
  | .andv a b, e => match e with
    | .BoolOp .And [ea, eb] _ => chkE gi ci a ea && chkE gi ci b eb
    | .BoolOp .And (ea :: eb :: ec :: es) p => chkE gi ci a ea && chkE gi ci b (.BoolOp .And (eb :: ec :: es) p)
    | _ => false
  | .orv a b, e => match e with
    | .BoolOp .Or [ea, eb] _ => chkE gi ci a ea && chkE gi ci b eb
    | .BoolOp .Or (ea :: eb :: ec :: es) p => chkE gi ci a ea && chkE gi ci b (.BoolOp .Or (eb :: ec :: es) p)
    | _ => false
  | .cmp op a b, e => match e with
    | .Compare ea [op'] [eb] _ => decide (op' = op) && !behindInMarks op eb && chkE gi ci a ea && chkE gi ci b eb
    | _ => false
  | .chain _ _ _ _ _, _ => false
  | .ite c a b, e => match e with
    | .IfExp ec ea eb _ => chkT gi ci c ec && chkE gi ci a ea && chkE gi ci b eb
    | _ => false
  | .call f es, e => match e with
    | .Call (.Name x _) (e0 :: ees) [] _ => decide (x = f) && glb ci.sc f && decide (f ∈ gi.fns) && nmOk f && ci.calm && chkL gi ci es (e0 :: ees)
    | _ => false
  | .make f es, e => match e with
    | .Call (.Name x _) (e0 :: ees) [] _ => decide (x = f) && glb ci.sc f && decide (f ∈ gi.cls) && nmOk f && ci.calm && chkL gi ci es (e0 :: ees)
    | _ => false
  | .meth o m es, e => match e with
    | .Call (.Attribute eo m' ap) (e0 :: ees) [] pos => decide (m' = m) && ci.calm && noSup eo && (ap.endLine == pos.line) && decide ((e0 :: ees).length < 30) && chkE gi ci o eo && chkL gi ci es (e0 :: ees)
    | _ => false
  | .blt f es, e => match e with
    | .Call (.Name x _) (e0 :: ees) [] _ => decide (x = biName f) && freeN ci gi x && ci.calm && chkL gi ci es (e0 :: ees)
    | _ => false
  | .isin a ts one, e => match e with
    | .Call (.Name x _) [ea, et] [] _ => decide (x = "isinstance") && freeN ci gi "isinstance" && noStar ea && chkE gi ci a ea && (match one, ts, et with
      | true, [T], et => tyC ci gi T et
      | false, ts, .Tuple es _ _ => tysC ci gi ts es && decide (ts.length ≤ 1000)
      | _, _, _ => false)
    | _ => false
  | .bm m o es, e => match e with
    | .Call (.Attribute eo nm ap) ees [] pos => decide (nm = bmName m) && noSup eo && (ap.endLine == pos.line) && chkE gi ci o eo && chkL gi ci es ees && (match m, es, ees with
      | .setd, .cons _ (.cons _ .nil), [_, _] => true
      | .append, _, [_] => true
      | .extend, _, [_] => true
      | .count, _, [_] => true
      | _, _, _ => false)
    | _ => false
  | .fld o f, e => match e with
    | .Attribute eo f' _ => decide (f' = f) && noSup eo && chkE gi ci o eo
    | _ => false
  | .idx o i, e => match e with
    | .Subscript eo ei _ => noSlc ei && chkE gi ci o eo && chkE gi ci i ei
    | _ => false
  | .slc o lo hi, e => match e with
    | .Subscript eo (.Slice l u none _) _ => chkE gi ci o eo && chkO gi ci lo l && chkO gi ci hi u
    | _ => false
  | .tup es, e => match e with
    | .Tuple ees _ _ => chkL gi ci es ees
    | _ => false
  | .lst es, e => match e with
    | .List ees _ => chkL gi ci es ees
    | _ => false
  | .dnewT, e => match e with
    | .Dict [] [] _ => true
    | _ => false
  | .dnewK, e => match e with
    | .Dict [] [] _ => true
    | _ => false
  | .disp ss es, e => match e with
    | .Dict ks ees _ => keysC ss ks && decide (ss.length = ees.length) && decide (exLen es = ss.length) && decide (ks.length = ees.length) && decide (ks.length ≠ 0) && decide (ks.length ≤ 15) && ks.all (·.isSome) && chkL gi ci es ees
    | _ => false
  | .lvals i, e => match e with
    | .Call (.Name l _) [.Call (.Attribute en v ap) [] [] cp] [] _ => decide (l = "list") && freeN ci gi "list" && decide (v = "values") && ci.calm && (ap.endLine == cp.line) && varC ci i en
    | _ => false
  | .comp x g it c el, e => match e with
    | .ListComp elt [⟨tg, iter, ifs, 0⟩] scope _ => ci.calm && (!x || ci.top) && noSet iter && blkC ci.N ci.sc scope (ownOf ci g.slots) && chkI gi ci it tg iter && tgC (ci.sub scope) g tg && chkE gi (ci.sub scope) el elt && (match ifs with
      | [] => isYes c
      | [t] => chkT gi (ci.sub scope) c t
      | _ => false)
    | _ => false
  | .comp2 g it g2 it2 c el, e => match e with
    | .ListComp elt [⟨tg, iter, [], 0⟩, ⟨tg2, iter2, ifs, 0⟩] scope _ => ci.calm && noSet iter && noSet iter2 && blkC ci.N ci.sc scope (ownOf ci (g2.slots ++ g.slots)) && chkI gi ci it tg iter && tgC (ci.sub scope) g tg && chkI gi (ci.sub scope) it2 tg2 iter2 && tgC (ci.sub scope) g2 tg2 && chkE gi (ci.sub scope) el elt && (match ifs with
      | [] => isYes c
      | [t] => chkT gi (ci.sub scope) c t
      | _ => false)
    | _ => false
  | .bad, _ => true
def chkL (gi : Gi) (ci : Ci) : ExL → List Expr → Bool
  | .nil, es => match es with
    | [] => true
    | _ => false
  | .cons x xs, es => match es with
    | e :: es => chkE gi ci x e && noStar e && chkL gi ci xs es
    | _ => false
def chkO (gi : Gi) (ci : Ci) : OEx → Option Expr → Bool
  | .none, e => match e with
    | none => true
    | _ => false
  | .some x, e => match e with
    | some e => chkE gi ci x e
    | _ => false
def chkT (gi : Gi) (ci : Ci) : Tx → Expr → Bool
  | .and a b, e => match e with
    | .BoolOp .And [ea, eb] _ => chkT gi ci a ea && chkT gi ci b eb
    | .BoolOp .And (ea :: eb :: ec :: es) p => chkT gi ci a ea && chkT gi ci b (.BoolOp .And (eb :: ec :: es) p)
    | _ => false
  | .or a b, e => match e with
    | .BoolOp .Or [ea, eb] _ => chkT gi ci a ea && chkT gi ci b eb
    | .BoolOp .Or (ea :: eb :: ec :: es) p => chkT gi ci a ea && chkT gi ci b (.BoolOp .Or (eb :: ec :: es) p)
    | _ => false
  | .not a, e => match e with
    | .UnaryOp .Not ea _ => chkT gi ci a ea
    | _ => false
  | .ex x, e => plainT e && chkE gi ci x e
  | .cmp op a b, e => match e with
    | .Compare ea [op'] [eb] _ => decide (op' = op) && !behindInMarks op eb && chkE gi ci a ea && chkE gi ci b eb
    | _ => false
  | .yes, _ => false
def chkI (gi : Gi) (ci : Ci) : Itx → Expr → Expr → Bool
  | .val x, _, e => chkE gi ci x e
  | .rng a b, _, e => match e with
    | .Call (.Name x _) [ea, eb] [] _ => decide (x = "range") && freeN ci gi "range" && noStar ea && noStar eb && chkE gi ci a ea && chkE gi ci b eb
    | _ => false
  | .rng1 a, _, e => match e with
    | .Call (.Name x _) [ea] [] _ => decide (x = "range") && freeN ci gi "range" && noStar ea && chkE gi ci a ea
    | _ => false
  | .enum a, tg, e => match tg, e with
    | .Tuple _ _ _, .Call (.Name x _) [ea] [] _ => decide (x = "enumerate") && freeN ci gi "enumerate" && noStar ea && chkE gi ci a ea
    | _, _ => false
  | .zip _ _, _, _ => false
end
end
end Ev

set_option Elab.async false
set_option linter.all false
set_option maxRecDepth 100000
set_option autoImplicit false
/-! Ev19: what is checked is so: expressions. -/
namespace Ev
open PySem PySem.Spec PyProof.Rows L2
open He (ga ma)

/-- the module's names, as they lie -/
structure Glo (P : Program) (w : World) (K : PySem.W.Frag) (mg : Str → Option Value) (base : Heap) (F : Fn) (gi : Gi) (U : Above) (k : Nat) : Prop where
  free : ∀ x ∈ gi.free, mg x = none
  i1 : ∀ x i, (x, i) ∈ gi.gi1 → ∃ t, mg x = some (.int i t)
  t2 : ∀ x ds, (x, ds) ∈ gi.gi2 → ∃ a, mg x = some (.ref a) ∧ ∀ ι H, Rv K ι H (.kt ds) (.ref a)
  fns : ∀ f ∈ gi.fns, ∃ a fd ps, mg f = some (.ref a) ∧ PySem.W.keepIn K (.ref a) = true ∧ Binds K fd ps [] ∧ FnOk P w K mg base (L2.CX P w) k a fd ps (spF K F Str.empty f)
  cls : ∀ c ∈ gi.cls, ∃ f fd ps, Mk K (ga K c) f ∧ Cls K (ga K c) ∧ mg c = some (.ref (ga K c)) ∧ Binds K fd ps [] ∧ FnOk P w K mg base (L2.CX P w) k f fd ps (spF K F c "__init__")
  mth : ∀ c m, F.has c m = true → Cls K (ga K c) ∧ ∃ f fd ps, Meth K (ga K c) m f ∧ FnOk P w K mg base (L2.CX P w) k f fd ps (spF K F c m) ∧ Binds K fd ps []
  noat : ∀ c f, (c, f) ∈ gi.noat → NoAttr K (ga K c) f
  exc : ∀ c ∈ gi.excs, mg c = some (.ref (ga K c)) ∧ PySem.W.excIn K (ga K c) He.veBase "ValueError.__new__" = true ∧ PySem.W.keepIn K (.ref (ga K c)) = true ∧ PySem.W.subIn K (.ref (ga K c)) (.type "BaseException") = some true ∧ PySem.W.typeIn K (.ref (ga K c)) = some (.type "type")
  up : ∀ c' c b, U c' c = some b → PySem.W.exmOne K (.ref (ga K c')) (.ref (ga K c)) = some b
/-- a context is as the check takes it -/
structure Okc (X : Cx) (F : Fn) (W : WX) (gi : Gi) (ci : Ci) (U : Above) (k : Nat) : Prop where
  glo : Glo X.prog X.w X.K X.mg X.base F gi U k
  hN : X.N = ci.N
  nd : ci.N.Nodup
  sc : X.env.scope = ci.sc
  fn : ∀ x, ci.fn x = true → X.fn x = true
  calm : X.calm = ci.calm
  hu : X.A.units + 65 < cLine
  room : ci.calm = true → Room (k + 1) X.A
  lets : Lets X W
  top : ci.top = true → Takes X W ∧ X.stack = X.env :: X.outer ∧ X.env.frame = some X.env.locals ∧ PassesOwn (model X.prog X.w) X.A X.env X.xe
def PEx (X : Cx) (F : Fn) (W : WX) (e : Expr) (x : Ex) : Prop := PE X e (tE X.K F W x) ∧
  ∀ (i : Nat) (y : Str) (py spos : Pos), isLC e = true → X.N[i]? = some y → X.env.scope.names.lookup y = some .local → swapsWith e (some (.Name y py)) spos.line X.env = pure true → PS X (.Assign [.Name y py] e spos) (tAsg (tE X.K F W x) (gName i))
theorem noLC {X : Cx} {F : Fn} {W : WX} {e : Expr} {x : Ex} (h : PE X e (tE X.K F W x)) (n : isLC e = false) : PEx X F W e x := ⟨h, fun _ _ _ _ z => by rw [n] at z; cases z⟩

/-! ### the parts of the check -/
section
variable {X : Cx} {F : Fn} {W : WX} {gi : Gi} {ci : Ci} {U : Above} {k : Nat} {x : Str} {e : Expr} {es : List Expr} {i : Nat}
theorem vis_of {sc : Scope} (h : vis sc x = true) : Vis sc x := by
  unfold vis at h
  split at h
  · exact .inl (by assumption)
  · exact .inr (.inl (by assumption))
  · exact .inr (.inr (by assumption))
  · cases h
theorem loc_of {sc : Scope} (h : loc sc x = true) : Loc sc x := by
  unfold loc at h
  split at h
  · exact .inl (by assumption)
  · exact .inr (by assumption)
  · cases h
theorem lcl_of {sc : Scope} (h : lcl sc x = true) : sc.names.lookup x = some .local := by
  unfold lcl at h
  split at h
  · assumption
  · cases h
theorem glb_of {sc : Scope} (h : glb sc x = true) : sc.names.lookup x = some .globalImplicit := by
  unfold glb at h
  split at h
  · assumption
  · cases h
theorem nm_of (h : nmOk x = true) : (x == ("__debug__" : Str)) = false ∧ (x == ("__classdict__" : Str)) = false := by
  simpa [nmOk] using h
theorem star_of (h : noStar e = true) : ∀ a p, e ≠ .Starred a p := by
  intro a p z; subst z; cases h
theorem noSet_of {iter : Expr} (h : noSet iter = true) : ∀ env x, foldedSetIterable iter env x = pure x := by
  intro env x
  cases iter <;> first | rfl | cases h
theorem noCmp_of {t : Option Expr} {l : Nat} {env : Env} (h : noCmp e = true) : swapsWith e t l env = pure false := by
  cases e <;> first | rfl | cases h
theorem Okc.glb (ok : Okc X F W gi ci U k) (h : Ev.glb ci.sc x = true) : Gl X x := by
  show X.env.scope.names.lookup x = _
  rw [ok.sc]; exact glb_of h
theorem Okc.freeN (ok : Okc X F W gi ci U k) (h : Ev.freeN ci gi x = true) : Gl X x ∧ X.mg x = none := by
  simp only [Ev.freeN, Bool.and_eq_true, decide_eq_true_eq] at h
  exact ⟨ok.glb h.1, ok.glo.free x h.2⟩
theorem Okc.vis (ok : Okc X F W gi ci U k) (h : Ev.vis ci.sc x = true) : Vis X.env.scope x := by rw [ok.sc]; exact vis_of h
theorem Okc.slot (ok : Okc X F W gi ci U k) (h : ci.N[i]? = some x) : X.N[i]? = some x := by rw [ok.hN]; exact h
theorem Okc.hN' (ok : Okc X F W gi ci U k) : X.N.Nodup := by rw [ok.hN]; exact ok.nd
theorem nameC_ok (ok : Okc X F W gi ci U k) (h : nameC ci i e = true) : ∃ (x : Str) (p : Pos), e = Expr.Name x p ∧ X.N[i]? = some x ∧ Loc X.env.scope x ∧ (X.fn x = true ∨ X.env.scope.names.lookup x = some .local) := by
  unfold nameC at h
  split at h
  · rename_i x p
    simp only [Bool.and_eq_true, decide_eq_true_eq, Bool.or_eq_true] at h
    refine ⟨x, p, rfl, ok.slot h.1.1, by rw [ok.sc]; exact loc_of h.1.2, h.2.imp (ok.fn x) fun z => by rw [ok.sc]; exact lcl_of z⟩
  · cases h
theorem namesC_ok (ok : Okc X F W gi ci U k) : ∀ {is : List Nat} {es : List Expr}, namesC ci is es = true → es.length = is.length ∧ ∀ (j : Nat) (e : Expr) (i : Nat), es[j]? = some e → is[j]? = some i → ∃ (x : Str) (p : Pos), e = Expr.Name x p ∧ X.N[i]? = some x ∧ Loc X.env.scope x ∧ (X.fn x = true ∨ X.env.scope.names.lookup x = some .local)
  | [], [], _ => ⟨rfl, by intro j e i h; simp at h⟩
  | [], _ :: _, h => by simp [namesC] at h
  | _ :: _, [], h => by simp [namesC] at h
  | i :: is, e :: es, h => by
    simp only [namesC, Bool.and_eq_true] at h
    obtain ⟨h1, h2⟩ := namesC_ok ok h.2
    refine ⟨by simp [h1], fun j e' i' a b => ?_⟩
    cases j with
    | zero => simp at a b; subst a b; exact nameC_ok ok h.1
    | succ j => exact h2 j e' i' (by simpa using a) (by simpa using b)
theorem tgC_ok (ok : Okc X F W gi ci U k) {g : Tg} (h : tgC ci g e = true) : TgOk X e g := by
  unfold tgC at h
  split at h
  · obtain ⟨x, p, rfl, h1, h2, h3⟩ := nameC_ok ok h
    exact .nm h1 h2 h3
  · simp only [Bool.and_eq_true] at h
    obtain ⟨h1, h2⟩ := namesC_ok ok h.2
    exact .tu (by rw [ok.calm]; exact h.1) h1 h2
  · cases h
theorem tyC_ok (ok : Okc X F W gi ci U k) {T : Ty} (h : tyC ci gi T e = true) : ∃ p, e = .Name (tyN T) p ∧ Gl X (tyN T) ∧ X.mg (tyN T) = none := by
  unfold tyC at h
  split at h
  · rename_i y p
    simp only [Bool.and_eq_true, decide_eq_true_eq] at h
    obtain ⟨rfl, h⟩ := h
    obtain ⟨h1, h2⟩ := ok.freeN h
    exact ⟨p, rfl, h1, h2⟩
  · cases h
theorem tysC_ok (ok : Okc X F W gi ci U k) : ∀ {ts : List Ty} {es : List Expr}, tysC ci gi ts es = true → TyNames X es ts
  | [], [], _ => .nil
  | [], _ :: _, h => by simp [tysC] at h
  | _ :: _, [], h => by simp [tysC] at h
  | T :: ts, e :: es, h => by
    simp only [tysC, Bool.and_eq_true] at h
    obtain ⟨p, rfl, h1, h2⟩ := tyC_ok ok h.1
    exact .cons h1 h2 (tysC_ok ok h.2)
theorem keysC_ok : ∀ {ss : List Str} {ks : List (Option Expr)}, keysC ss ks = true → KeyStrs ks ss
  | [], [], _ => .nil
  | [], _ :: _, h => by simp [keysC] at h
  | _ :: _, [], h => by simp [keysC] at h
  | s :: ss, key :: ks, h => by
    unfold keysC at h
    split at h
    · rename_i q _; cases q
    · rename_i a b c d e f g q1 q2
      cases q1; cases q2
      simp only [Bool.and_eq_true, decide_eq_true_eq] at h
      obtain ⟨rfl, h⟩ := h
      exact .cons (keysC_ok h)
    · cases h
theorem own_snd : ∀ {is : List Nat}, (ownOf ci is).map (·.2) = is
  | [] => rfl
  | i :: is => congrArg (i :: ·) (own_snd (is := is))
theorem lets_WN (X : Cx) : Lets X WN := by
  intro σ pins H s e s' I c
  obtain ⟨a, B, H', cls, d, _, _, _, _, _, _, _, hE⟩ := c
  exact hE.elim
theorem Okc.blx (ok : Okc X F W gi ci U k) {W' : WX} (s : Shared) (H : Hp) (scope : Scope) (C : Addr) (cl : List (Str × Addr)) (fp : List Addr) (lets : Lets (Ev.blx X s H scope (compEnvC scope cl C X.env) fp) W') :
    Okc (Ev.blx X s H scope (compEnvC scope cl C X.env) fp) F W' gi (ci.sub scope) U k where
  glo := ok.glo
  hN := ok.hN
  nd := ok.nd
  sc := by
    show relS scope X.env.scope = relS scope ci.sc
    rw [ok.sc]
  fn := fun x h => h
  calm := ok.calm
  hu := ok.hu
  room := ok.room
  lets := lets
  top := fun h => by cases h
theorem Okc.blk (ok : Okc X F W gi ci U k) (s : Shared) (H : Hp) (scope : Scope) (C : Addr) (cl : List (Str × Addr)) (fp : List Addr) :
    Okc (X.blk s H scope (compEnvC scope cl C X.env) fp) F WN gi (ci.sub scope) U k where
  glo := ok.glo
  hN := ok.hN
  nd := ok.nd
  sc := by
    show relS scope X.env.scope = relS scope ci.sc
    rw [ok.sc]
  fn := fun x h => h
  calm := ok.calm
  hu := ok.hu
  room := ok.room
  lets := lets_WN _
  top := fun h => by cases h
theorem varC_ok (ok : Okc X F W gi ci U k) (h : varC ci i e = true) : ∃ x p, e = .Name x p ∧ X.N[i]? = some x ∧ Vis X.env.scope x ∧ (x == ("__debug__" : Str)) = false ∧ (x == ("__classdict__" : Str)) = false := by
  unfold varC at h
  split at h
  · rename_i x p
    simp only [Bool.and_eq_true, decide_eq_true_eq] at h
    obtain ⟨h1, h2⟩ := nm_of h.2
    exact ⟨x, p, rfl, ok.slot h.1.1, ok.vis h.1.2, h1, h2⟩
  · cases h
theorem pts_nil' : PTs X [] (tT X.K F W .yes) := ⟨fun pins s σ H Q I q => pts_nil.run pins s σ H Q I (by
    obtain ⟨ι, h, ρ, r, hR, hn, he, g⟩ := q
    simp only [evT] at he; cases he
    exact g.here hR rfl)⟩
theorem isTrue_plain {e : Expr} (h : plainT e = true) (env : Env) : ∀ whole, isTrue e env whole = (do let v ← whole; standAt e.pos; holding [v] (truthy v)) := by
  intro whole
  cases e with
  | UnaryOp op a p => cases op <;> first | rfl | cases h
  | BoolOp _ _ _ => cases h
  | IfExp _ _ _ _ => cases h
  | Compare _ _ _ _ => cases h
  | _ => rfl
end
end Ev

set_option Elab.async false
set_option linter.all false
set_option maxRecDepth 100000
set_option autoImplicit false
set_option maxHeartbeats 0
/-! Ev20: expressions do what the evaluator says. -/
namespace Ev
open PySem PySem.Spec PyProof.Rows L2
open He (ga ma)

section
variable {F : Fn} {gi : Gi} {U : Above} {k : Nat}
theorem ft {P : Prop} (h : false = true) : P := by cases h
theorem sl1000 {n : Nat} (h : n ≤ 1000) : n ≤ sizeLine := by rw [sizeLine_eq]; omega
/-- and, or: the whole is not looked at -/
theorem pw_of_pt {X : Cx} {op : BoolOp} {es : List Expr} {p : Pos} {t : TT} (h : PT X (.BoolOp op es p) t) : PW X (.BoolOp op es p) t := ⟨fun whole pins s σ H Q I q => h.run pins s σ H Q I q⟩
mutual
theorem sndE : ∀ (x : Ex) {X : Cx} {W : WX} {ci : Ci} {e : Expr}, Okc X F W gi ci U k → chkE gi ci x e = true → PEx X F W e x
  | .var i, X, W, ci, e, ok, h => by
    simp only [chkE] at h
    obtain ⟨x, p, rfl, h1, h2, h3, h4⟩ := varC_ok ok h
    exact noLC (snd_var h1 h2 h3 h4) rfl
  | .int i, X, W, ci, e, ok, h => by
    simp only [chkE] at h
    split at h
    · simp only [decide_eq_true_eq] at h; subst h; exact noLC snd_int rfl
    · exact ft h
  | .bl i, X, W, ci, e, ok, h => by
    simp only [chkE] at h
    split at h
    · simp only [decide_eq_true_eq] at h; subst h; exact noLC snd_bl rfl
    · exact ft h
  | .non, X, W, ci, e, ok, h => by
    simp only [chkE] at h
    split at h
    · exact noLC snd_non rfl
    · exact ft h
  | .str i, X, W, ci, e, ok, h => by
    simp only [chkE] at h
    split at h
    · simp only [decide_eq_true_eq] at h; subst h; exact noLC snd_str rfl
    · exact ft h
  | .gint x i, X, W, ci, e, ok, h => by
    simp only [chkE] at h
    split at h
    · simp only [Bool.and_eq_true, decide_eq_true_eq] at h
      obtain ⟨⟨⟨rfl, h1⟩, h2⟩, h3⟩ := h
      obtain ⟨t, ht⟩ := ok.glo.i1 _ _ h2
      exact noLC (snd_gint (ok.glb h1) ht (nm_of h3).1) rfl
    · exact ft h
  | .gtup x ds, X, W, ci, e, ok, h => by
    simp only [chkE] at h
    split at h
    · simp only [Bool.and_eq_true, decide_eq_true_eq] at h
      obtain ⟨⟨⟨rfl, h1⟩, h2⟩, h3⟩ := h
      obtain ⟨a, ha, hv⟩ := ok.glo.t2 _ _ h2
      exact noLC (snd_gtup (ok.glb h1) ha hv (nm_of h3).1) rfl
    · exact ft h
  | .bin op a b, X, W, ci, e, ok, h => by
    simp only [chkE] at h
    split at h
    · simp only [Bool.and_eq_true, decide_eq_true_eq] at h
      obtain ⟨⟨rfl, h1⟩, h2⟩ := h
      exact noLC (snd_bin (sndE a ok h1).1 (sndE b ok h2).1) rfl
    · exact ft h
  | .neg a, X, W, ci, e, ok, h => by
    simp only [chkE] at h
    split at h
    · exact noLC (snd_neg (sndE a ok h).1) rfl
    · exact ft h
  | .notv a, X, W, ci, e, ok, h => by
    simp only [chkE] at h
    split at h
    · exact noLC (snd_notv (sndE a ok h).1) rfl
    · exact ft h
  | .andv a b, X, W, ci, e, ok, h => by
    simp only [chkE] at h
    split at h
    · simp only [Bool.and_eq_true] at h
      exact noLC (snd_andv (sndE a ok h.1).1 (pe_one (sndE b ok h.2).1)) rfl
    · simp only [Bool.and_eq_true] at h
      exact noLC (snd_andv (sndE a ok h.1).1 (sndE b ok h.2).1) rfl
    · exact ft h
  | .orv a b, X, W, ci, e, ok, h => by
    simp only [chkE] at h
    split at h
    · simp only [Bool.and_eq_true] at h
      exact noLC (snd_orv (sndE a ok h.1).1 (pe_one (sndE b ok h.2).1)) rfl
    · simp only [Bool.and_eq_true] at h
      exact noLC (snd_orv (sndE a ok h.1).1 (sndE b ok h.2).1) rfl
    · exact ft h
  | .cmp op a b, X, W, ci, e, ok, h => by
    simp only [chkE] at h
    split at h
    · simp only [Bool.and_eq_true, decide_eq_true_eq, Bool.not_eq_true'] at h
      obtain ⟨⟨⟨rfl, hm⟩, h1⟩, h2⟩ := h
      exact noLC (snd_cmp ok.hu (sndE a ok h1).1 (sndE b ok h2).1 hm) rfl
    · exact ft h
  | .chain _ _ _ _ _, X, W, ci, e, ok, h => by simp only [chkE] at h; exact ft h
  | .ite c a b, X, W, ci, e, ok, h => by
    simp only [chkE] at h
    split at h
    · simp only [Bool.and_eq_true] at h
      exact noLC (snd_ite (sndT c ok h.1.1) (sndE a ok h.1.2).1 (sndE b ok h.2).1) rfl
    · exact ft h
  | .call f es, X, W, ci, e, ok, h => by
    simp only [chkE] at h
    split at h
    · simp only [Bool.and_eq_true, decide_eq_true_eq] at h
      obtain ⟨⟨⟨⟨⟨rfl, h1⟩, h2⟩, h3⟩, h4⟩, h5⟩ := h
      obtain ⟨a, fd, ps, ha, hk, hb, hF⟩ := ok.glo.fns _ h2
      exact noLC (snd_call hF ((ok.room h4).mono (Nat.le_succ k)) (ok.glb h1) ha hk hb ok.lets (sndL es ok h5) (nm_of h3).1) rfl
    · exact ft h
  | .make f es, X, W, ci, e, ok, h => by
    simp only [chkE] at h
    split at h
    · simp only [Bool.and_eq_true, decide_eq_true_eq] at h
      obtain ⟨⟨⟨⟨⟨rfl, h1⟩, h2⟩, h3⟩, h4⟩, h5⟩ := h
      obtain ⟨a, fd, ps, M, cl, ha, hb, hF⟩ := ok.glo.cls _ h2
      exact noLC (snd_make M cl hF (ok.room h4) (ok.glb h1) ha hb ok.lets (sndL es ok h5) (nm_of h3).1) rfl
    · exact ft h
  | .meth o m es, X, W, ci, e, ok, h => by
    simp only [chkE] at h
    split at h
    · simp only [Bool.and_eq_true, decide_eq_true_eq] at h
      obtain ⟨⟨⟨⟨⟨⟨rfl, h1⟩, h2⟩, h3⟩, h4⟩, h5⟩, h6⟩ := h
      exact noLC (snd_meth (sndE o ok h5).1 (fun c hc => ⟨(ok.glo.mth c _ hc).1, (ok.glo.mth c _ hc).2⟩) ((ok.room h1).mono (Nat.le_succ k)) ok.lets (sndL es ok h6) h4 h2 h3) rfl
    · exact ft h
  | .blt f es, X, W, ci, e, ok, h => by
    simp only [chkE] at h
    split at h
    · simp only [Bool.and_eq_true, decide_eq_true_eq] at h
      obtain ⟨⟨⟨hx, h1⟩, h2⟩, h3⟩ := h
      obtain ⟨g1, g2⟩ := ok.freeN h1
      have ps := sndL es ok h3
      exact noLC (snd_blt (by rw [ok.calm]; exact h2) hx g1 g2 ps.pa ps.star) rfl
    · exact ft h
  | .isin a ts one, X, W, ci, e, ok, h => by
    simp only [chkE] at h
    split at h
    · simp only [Bool.and_eq_true, decide_eq_true_eq] at h
      obtain ⟨⟨⟨⟨rfl, h1⟩, h2⟩, h3⟩, h4⟩ := h
      obtain ⟨g1, g2⟩ := ok.freeN h1
      split at h4
      · obtain ⟨p, rfl, t1, t2⟩ := tyC_ok ok h4
        exact noLC (snd_isin1 (sndE a ok h3).1 g1 g2 t1 t2 (star_of h2)) rfl
      · simp only [Bool.and_eq_true, decide_eq_true_eq] at h4
        exact noLC (snd_isinT (sndE a ok h3).1 g1 g2 (tysC_ok ok h4.1) (sl1000 h4.2) (star_of h2)) rfl
      · exact ft h4
    · exact ft h
  | .bm m o es, X, W, ci, e, ok, h => by
    simp only [chkE] at h
    split at h
    · simp only [Bool.and_eq_true, decide_eq_true_eq] at h
      obtain ⟨⟨⟨⟨⟨rfl, h1⟩, h2⟩, h3⟩, h4⟩, h5⟩ := h
      have po := (sndE o ok h3).1
      have ps := sndL es ok h4
      split at h5
      · cases ps with
        | cons a1 s1 ps => cases ps with
          | cons a2 s2 ps => cases ps with
            | nil => exact noLC (snd_setd (Nat.lt_of_le_of_lt (by omega) ok.hu) po a1 a2 h1 s1 s2 h2) rfl
      · exact noLC (snd_bm rfl (by simp) (by simp) po ps.pa h1 (ps.star _ (by simp)) h2) rfl
      · exact noLC (snd_bm rfl (by simp) (by simp) po ps.pa h1 (ps.star _ (by simp)) h2) rfl
      · exact noLC (snd_bm rfl (by simp) (by simp) po ps.pa h1 (ps.star _ (by simp)) h2) rfl
      · exact ft h5
    · exact ft h
  | .fld o f, X, W, ci, e, ok, h => by
    simp only [chkE] at h
    split at h
    · simp only [Bool.and_eq_true, decide_eq_true_eq] at h
      obtain ⟨⟨rfl, h1⟩, h2⟩ := h
      exact noLC (snd_fld (sndE o ok h2).1 h1) rfl
    · exact ft h
  | .idx o i, X, W, ci, e, ok, h => by
    simp only [chkE] at h
    split at h
    · simp only [Bool.and_eq_true] at h
      exact noLC (snd_idx (Nat.lt_of_le_of_lt (by omega) ok.hu) (sndE o ok h.1.2).1 (sndE i ok h.2).1 h.1.1) rfl
    · exact ft h
  | .slc o lo hi, X, W, ci, e, ok, h => by
    simp only [chkE] at h
    split at h
    · simp only [Bool.and_eq_true] at h
      exact noLC (snd_slc (sndE o ok h.1.1).1 (sndO lo ok h.1.2) (sndO hi ok h.2)) rfl
    · exact ft h
  | .tup es, X, W, ci, e, ok, h => by
    simp only [chkE] at h
    split at h
    · exact noLC (snd_tup (sndL es ok h).pa) rfl
    · exact ft h
  | .lst es, X, W, ci, e, ok, h => by
    simp only [chkE] at h
    split at h
    · exact noLC (snd_lst (sndL es ok h).pa) rfl
    · exact ft h
  | .dnewT, X, W, ci, e, ok, h => by
    simp only [chkE] at h
    split at h
    · exact noLC snd_dnewT rfl
    · exact ft h
  | .dnewK, X, W, ci, e, ok, h => by
    simp only [chkE] at h
    split at h
    · exact noLC snd_dnewK rfl
    · exact ft h
  | .disp ss es, X, W, ci, e, ok, h => by
    simp only [chkE] at h
    split at h
    · simp only [Bool.and_eq_true, decide_eq_true_eq] at h
      obtain ⟨⟨⟨⟨⟨⟨⟨h1, h2⟩, h3⟩, h4⟩, h5⟩, h6⟩, h7⟩, h8⟩ := h
      exact noLC (snd_disp (keysC_ok h1) (sndL es ok h8) h2 h3 h7 h4 (fun z => h5 (by rw [z]; rfl)) h6) rfl
    · exact ft h
  | .lvals i, X, W, ci, e, ok, h => by
    simp only [chkE] at h
    split at h
    · simp only [Bool.and_eq_true, decide_eq_true_eq] at h
      obtain ⟨⟨⟨⟨⟨rfl, h1⟩, rfl⟩, h3⟩, h4⟩, h5⟩ := h
      obtain ⟨g1, g2⟩ := ok.freeN h1
      obtain ⟨x, p, rfl, v1, v2, v3, v4⟩ := varC_ok ok h5
      exact noLC (snd_lvals (by rw [ok.calm]; exact h3) v1 v2 v3 v4 g1 g2 h4) rfl
    · exact ft h
  | .comp x g it c el, X, W, ci, e, ok, h => by
    simp only [chkE] at h
    split at h
    · simp only [Bool.and_eq_true] at h
      obtain ⟨⟨⟨⟨⟨⟨⟨h1, h2⟩, h3⟩, h4⟩, h5⟩, h6⟩, h7⟩, h8⟩ := h
      rename_i elt tg iter ifs scope pos
      have hc : X.calm = true := by rw [ok.calm]; exact h1
      have bo : BlkOk X.N X.env.scope scope (ownOf ci g.slots) := by rw [ok.hN, ok.sc]; exact blkOk_by h4
      have hi := sndI it ok h5
      cases x with
      | true =>
        simp only [Bool.not_true, Bool.false_or] at h2
        obtain ⟨tk, hst, hfm, _⟩ := ok.top h2
        have hg : ∀ (s : Shared) (H : Hp) (C : Addr) (cl : List (Str × Addr)) (fp : List Addr), PG (blx X s H scope (compEnvC scope cl C X.env) fp) tg (rTg X.K g) := fun s H C cl fp => by
          have l0 : Lets (blx X s H scope (compEnvC scope cl C X.env) fp) WN := lets_WN _
          have o := ok.blx s H scope C cl fp l0
          exact snd_tg o.hN' (tgC_ok o h6)
        have ht : ∀ (s : Shared) (H : Hp) (C : Addr) (cl : List (Str × Addr)) (fp : List Addr) (W' : WX), Lets (blx X s H scope (compEnvC scope cl C X.env) fp) W' → PTs (blx X s H scope (compEnvC scope cl C X.env) fp) ifs (tT X.K F W' c) := fun s H C cl fp W' l => by
          have o := ok.blx s H scope C cl fp l
          split at h8
          · cases c <;> first | exact pts_nil' | exact ft h8
          · exact pts_one (sndT c o h8)
          · exact ft h8
        have he : ∀ (s : Shared) (H : Hp) (C : Addr) (cl : List (Str × Addr)) (fp : List Addr) (W' : WX), Lets (blx X s H scope (compEnvC scope cl C X.env) fp) W' → PE (blx X s H scope (compEnvC scope cl C X.env) fp) elt (tE X.K F W' el) := fun s H C cl fp W' l =>
          (sndE el (ok.blx s H scope C cl fp l) h7).1
        exact ⟨snd_comp hc ok.hN' tk hst hfm hi bo own_snd hg ht he (noSet_of h3 X.env),
          fun i y py spos _ hy hyl hsw => snd_setComp hc ok.hN' hy hyl hsw tk hst hfm hi bo own_snd hg ht he (noSet_of h3 X.env)⟩
      | false =>
        have hg : ∀ (s : Shared) (H : Hp) (C : Addr) (cl : List (Str × Addr)) (fp : List Addr), PG (X.blk s H scope (compEnvC scope cl C X.env) fp) tg (rTg X.K g) := fun s H C cl fp =>
          snd_tg (ok.blk s H scope C cl fp).hN' (tgC_ok (ok.blk s H scope C cl fp) h6)
        have ht : ∀ (s : Shared) (H : Hp) (C : Addr) (cl : List (Str × Addr)) (fp : List Addr), PTs (X.blk s H scope (compEnvC scope cl C X.env) fp) ifs (tT X.K F WN c) := fun s H C cl fp => by
          have o := ok.blk s H scope C cl fp
          split at h8
          · cases c <;> first | exact pts_nil' | exact ft h8
          · exact pts_one (sndT c o h8)
          · exact ft h8
        have he : ∀ (s : Shared) (H : Hp) (C : Addr) (cl : List (Str × Addr)) (fp : List Addr), PE (X.blk s H scope (compEnvC scope cl C X.env) fp) elt (tE X.K F WN el) := fun s H C cl fp =>
          (sndE el (ok.blk s H scope C cl fp) h7).1
        exact ⟨snd_compN hc ok.hN' hi bo own_snd hg ht he (noSet_of h3 X.env),
          fun i y py spos _ hy hyl hsw => snd_setCompN hc ok.hN' hy hyl hsw hi bo own_snd hg ht he (noSet_of h3 X.env)⟩
    · exact ft h
  | .comp2 g it g2 it2 c el, X, W, ci, e, ok, h => by
    simp only [chkE] at h
    split at h
    · simp only [Bool.and_eq_true] at h
      obtain ⟨⟨⟨⟨⟨⟨⟨⟨⟨h1, h2⟩, h3⟩, h4⟩, h5⟩, h6⟩, h7⟩, h8⟩, h9⟩, h10⟩ := h
      rename_i elt tg iter tg2 iter2 ifs scope pos
      have hc : X.calm = true := by rw [ok.calm]; exact h1
      have bo : BlkOk X.N X.env.scope scope (ownOf ci (g2.slots ++ g.slots)) := by rw [ok.hN, ok.sc]; exact blkOk_by h4
      have hi := sndI it ok h5
      have hg : ∀ (s : Shared) (H : Hp) (C : Addr) (cl : List (Str × Addr)) (fp : List Addr), PG (X.blk s H scope (compEnvC scope cl C X.env) fp) tg (rTg X.K g) := fun s H C cl fp =>
        snd_tg (ok.blk s H scope C cl fp).hN' (tgC_ok (ok.blk s H scope C cl fp) h6)
      have hi2 : ∀ (s : Shared) (H : Hp) (C : Addr) (cl : List (Str × Addr)) (fp : List Addr), PI (X.blk s H scope (compEnvC scope cl C X.env) fp) tg2 iter2 (tI X.K F WN it2) := fun s H C cl fp =>
        sndI it2 (ok.blk s H scope C cl fp) h7
      have hg2 : ∀ (s : Shared) (H : Hp) (C : Addr) (cl : List (Str × Addr)) (fp : List Addr), PG (X.blk s H scope (compEnvC scope cl C X.env) fp) tg2 (rTg X.K g2) := fun s H C cl fp =>
        snd_tg (ok.blk s H scope C cl fp).hN' (tgC_ok (ok.blk s H scope C cl fp) h8)
      have ht : ∀ (s : Shared) (H : Hp) (C : Addr) (cl : List (Str × Addr)) (fp : List Addr), PTs (X.blk s H scope (compEnvC scope cl C X.env) fp) ifs (tT X.K F WN c) := fun s H C cl fp => by
        have o := ok.blk s H scope C cl fp
        split at h10
        · cases c <;> first | exact pts_nil' | exact ft h10
        · exact pts_one (sndT c o h10)
        · exact ft h10
      have he : ∀ (s : Shared) (H : Hp) (C : Addr) (cl : List (Str × Addr)) (fp : List Addr), PE (X.blk s H scope (compEnvC scope cl C X.env) fp) elt (tE X.K F WN el) := fun s H C cl fp =>
        (sndE el (ok.blk s H scope C cl fp) h9).1
      exact ⟨snd_comp2 hc ok.hN' hi bo own_snd hg hi2 hg2 ht he (noSet_of h2 X.env) (noSet_of h3),
        fun i y py spos _ hy hyl hsw => snd_setComp2 hc ok.hN' hy hyl hsw hi bo own_snd hg hi2 hg2 ht he (noSet_of h2 X.env) (noSet_of h3)⟩
    · exact ft h
  | .bad, X, W, ci, e, ok, h => ⟨snd_bad, fun i y py spos _ hy hyl hsw => ⟨fun pins s σ H D I q => by
      obtain ⟨ι, h, ρ, r, hR, hn, he, g⟩ := q
      simp only [evE] at he; cases he⟩⟩
theorem sndL : ∀ (xs : ExL) {X : Cx} {W : WX} {ci : Ci} {es : List Expr}, Okc X F W gi ci U k → chkL gi ci xs es = true → PEs X F W es xs
  | .nil, X, W, ci, es, ok, h => by
    simp only [chkL] at h
    split at h
    · exact .nil
    · exact ft h
  | .cons x xs, X, W, ci, es, ok, h => by
    simp only [chkL] at h
    split at h
    · simp only [Bool.and_eq_true] at h
      exact .cons (sndE x ok h.1.1).1 (star_of h.1.2) (sndL xs ok h.2)
    · exact ft h
theorem sndO : ∀ (x : OEx) {X : Cx} {W : WX} {ci : Ci} {e : Option Expr}, Okc X F W gi ci U k → chkO gi ci x e = true → PO X e (tOx X.K F W x)
  | .none, X, W, ci, e, ok, h => by
    simp only [chkO] at h
    split at h
    · exact snd_ono
    · exact ft h
  | .some x, X, W, ci, e, ok, h => by
    simp only [chkO] at h
    split at h
    · exact snd_osome (sndE x ok h).1
    · exact ft h
theorem sndT : ∀ (x : Tx) {X : Cx} {W : WX} {ci : Ci} {e : Expr}, Okc X F W gi ci U k → chkT gi ci x e = true → PT X e (tT X.K F W x)
  | .and a b, X, W, ci, e, ok, h => by
    simp only [chkT] at h
    split at h
    · simp only [Bool.and_eq_true] at h
      exact (snd_tand (sndT a ok h.1) (pw_and1 (sndT b ok h.2))).pt
    · simp only [Bool.and_eq_true] at h
      exact (snd_tand (sndT a ok h.1) (pw_of_pt (sndT b ok h.2))).pt
    · exact ft h
  | .or a b, X, W, ci, e, ok, h => by
    simp only [chkT] at h
    split at h
    · simp only [Bool.and_eq_true] at h
      exact (snd_tor (sndT a ok h.1) (pw_or1 (sndT b ok h.2))).pt
    · simp only [Bool.and_eq_true] at h
      exact (snd_tor (sndT a ok h.1) (pw_of_pt (sndT b ok h.2))).pt
    · exact ft h
  | .not a, X, W, ci, e, ok, h => by
    simp only [chkT] at h
    split at h
    · exact snd_tnot (sndT a ok h)
    · exact ft h
  | .ex x, X, W, ci, e, ok, h => by
    simp only [chkT, Bool.and_eq_true] at h
    exact snd_tex (sndE x ok h.2).1 (isTrue_plain h.1 X.env)
  | .cmp op a b, X, W, ci, e, ok, h => by
    simp only [chkT] at h
    split at h
    · simp only [Bool.and_eq_true, decide_eq_true_eq, Bool.not_eq_true'] at h
      obtain ⟨⟨⟨rfl, hm⟩, h1⟩, h2⟩ := h
      exact snd_cmpC ok.hu (sndE a ok h1).1 (sndE b ok h2).1 hm
    · exact ft h
  | .yes, X, W, ci, e, ok, h => by simp only [chkT] at h; exact ft h
theorem sndI : ∀ (x : Itx) {X : Cx} {W : WX} {ci : Ci} {tg e : Expr}, Okc X F W gi ci U k → chkI gi ci x tg e = true → PI X tg e (tI X.K F W x)
  | .val x, X, W, ci, tg, e, ok, h => by
    simp only [chkI] at h
    exact snd_ival (sndE x ok h).1
  | .rng a b, X, W, ci, tg, e, ok, h => by
    simp only [chkI] at h
    split at h
    · simp only [Bool.and_eq_true, decide_eq_true_eq] at h
      obtain ⟨⟨⟨⟨⟨rfl, h1⟩, h2⟩, h3⟩, h4⟩, h5⟩ := h
      obtain ⟨g1, g2⟩ := ok.freeN h1
      exact snd_irng (sndE a ok h4).1 (sndE b ok h5).1 g1 g2 (star_of h2) (star_of h3)
    · exact ft h
  | .rng1 a, X, W, ci, tg, e, ok, h => by
    simp only [chkI] at h
    split at h
    · simp only [Bool.and_eq_true, decide_eq_true_eq] at h
      obtain ⟨⟨⟨rfl, h1⟩, h2⟩, h3⟩ := h
      obtain ⟨g1, g2⟩ := ok.freeN h1
      exact snd_irng1 (xs := .non) (sndE a ok h3).1 g1 g2 (star_of h2)
    · exact ft h
  | .enum a, X, W, ci, tg, e, ok, h => by
    simp only [chkI] at h
    split at h
    · simp only [Bool.and_eq_true, decide_eq_true_eq] at h
      obtain ⟨⟨⟨rfl, h1⟩, h2⟩, h3⟩ := h
      obtain ⟨g1, g2⟩ := ok.freeN h1
      exact snd_ienum (sndE a ok h3).1 g1 g2 (star_of h2)
    · exact ft h
  | .zip _ _, X, W, ci, tg, e, ok, h => by simp only [chkI] at h; exact ft h
end
end
end Ev

set_option Elab.async false
set_option linter.all false
set_option maxRecDepth 100000
set_option autoImplicit false
set_option maxHeartbeats 0
/-! Ev21: statements: the check, and that they do what the evaluator says. -/
namespace Ev
open PySem PySem.Spec PyProof.Rows L2
open He (ga ma)

def Ci.suite (ci : Ci) : Ci := { ci with calm := false, top := false }
def cel (sc : Scope) (x : Str) : Bool := match sc.names.lookup x with
  | some .cell => true
  | _ => false
theorem cel_of {sc : Scope} {x : Str} (h : cel sc x = true) : sc.names.lookup x = some .cell := by
  unfold cel at h
  split at h
  · assumption
  · cases h
theorem sw_false {elt : Expr} {gs : List Comprehension} {scope : Scope} {pos py : Pos} {y : Str} {l : Nat} {env : Env} (hk : env.scope.names.lookup y = some .cell) : swapsWith (.ListComp elt gs scope pos) (some (.Name y py)) l env = pure false := by
  have ky : env.kindOf y = some .cell := hk
  unfold swapsWith
  simp only [ky]
  have e : (some NameKind.cell == some NameKind.local) = false := by decide
  simp only [e, Bool.and_false, Bool.false_and]
def noSlice : Expr → Bool
  | .Slice _ _ _ _ => false
  | _ => true
/-- the value of a swapped pair -/
def parC (ci : Ci) (x y : Str) (px py : Pos) (ea eb : Expr) : Bool :=
  lcl ci.sc x && lcl ci.sc y && (px.line == py.line) && decide (x ≠ y) && noStar ea && noStar eb && !([ea, eb].all (foldedForSure 8)) && !([ea, eb].all (constantsAlone 8)) && (match ci.sc.kind with | .function => true | _ => false)
def tupVal (e : Expr) : Bool := match e with
  | .Tuple vs _ _ => vs.all (foldedForSure 8)
  | _ => true
section
mutual
def chkS (gi : Gi) (ci : Ci) : Sx → Stmt → Bool
  | .expr x, s => match s with
    | .Expr e _ => noCmp e && chkE gi ci x e
    | _ => false
  | .ret x, s => match s with
    | .Return (some e) _ => chkE gi ci x e
    | _ => false
  | .retN, s => match s with
    | .Return none _ => true
    | _ => false
  | .asg (.tg g) x, s => match g, s with
    | .nm i, .Assign [.Name y py] e p => chkE gi ci x e && nameC ci i (.Name y py) && (noCmp e || (match e with
      | .ListComp _ _ scope pos => (lcl ci.sc y && (py.line == pos.line) && !(scope.names.any fun (n, k) => n == y && (k == .local || k == .cell)) && (match ci.sc.kind with | .function => true | _ => false)) || cel ci.sc y
      | _ => false))
    | .tu is, .Assign [.Tuple ts k p'] e p => chkE gi ci x e && tgC ci (.tu is) (.Tuple ts k p') && noCmp e && tupVal e
    | _, _ => false
  | .asg (.fld o c f) x, s => match s with
    | .Assign [.Attribute eo f' _] e _ => decide (f' = f) && decide ((c, f) ∈ gi.noat) && noCmp e && chkE gi ci o eo && chkE gi ci x e
    | _ => false
  | .asg (.sub o i) x, s => match s with
    | .Assign [.Subscript eo ei _] e _ => noSlice ei && noCmp e && chkE gi ci o eo && chkE gi ci i ei && chkE gi ci x e
    | _ => false
  | .par i j a b, s => match s with
    | .Assign [.Tuple [.Name x px, .Name y py] _ _] (.Tuple [ea, eb] _ _) _ => ci.calm && parC ci x y px py ea eb && decide (ci.N[i]? = some x) && decide (ci.N[j]? = some y) && decide (i ≠ j) && chkE gi ci a ea && chkE gi ci b eb
    | _ => false
  | .aug i op x, s => match s with
    | .AugAssign (.Name y p) op' e _ => decide (op' = op) && augOp op && nameC ci i (.Name y p) && chkE gi ci x e
    | _ => false
  | .augF _ _ _ _ _, _ => false
  | .augS o i op x, s => match s with
    | .AugAssign (.Subscript eo ei _) op' e _ => decide (op' = op) && augOp op && noSlice ei && chkE gi ci o eo && chkE gi ci i ei && chkE gi ci x e
    | _ => false
  | .ifs c a b, s => match s with
    | .If t s1 s2 _ => chkT gi ci c t && chkSs gi ci a s1 && chkSs gi ci b s2
    | _ => false
  | .fors g it b, s => match s with
    | .For tg iter body [] _ => ci.top && ci.calm && noSet iter && chkI gi ci it tg iter && tgC ci g tg && chkSs gi ci b body
    | _ => false
  | .forV g i b, s => match s with
    | .For tg (.Call (.Attribute (.Name x p2) v ap) [] [] cp) body [] _ => ci.top && ci.calm && decide (v = "values") && (ap.endLine == cp.line) && varC ci i (.Name x p2) && tgC ci g tg && chkSs gi ci b body
    | _ => false
  | .whil c b, s => match s with
    | .While t body [] _ => ci.top && chkT gi ci c t && chkSs gi ci b body
    | _ => false
  | .raise c, s => match s with
    | .Raise (some (.Call (.Name x _) [.Constant (.str _) _ _] [] _)) none _ => ci.top && ci.calm && decide (x = c) && glb ci.sc c && nmOk c && decide (c ∈ gi.excs)
    | _ => false
  | .tryO c b ss, s => match s with
    | .Try body [.ExceptHandler (some (.Name x _)) none (b0 :: suite) _] [] [] _ => ci.top && decide (x = c) && glb ci.sc c && nmOk c && decide (c ∈ gi.excs) && chkSs gi ci b body && chkSs gi ci.suite ss (b0 :: suite)
    | _ => false
  | .brk, s => match s with
    | .Break _ => true
    | _ => false
  | .cont, s => match s with
    | .Continue _ => true
    | _ => false
  | .pass, s => match s with
    | .Pass _ => true
    | _ => false
  | .bad, _ => true
def chkSs (gi : Gi) (ci : Ci) : SxL → List Stmt → Bool
  | .nil, ss => match ss with
    | [] => true
    | _ => false
  | .cons x xs, ss => match ss with
    | s :: ss => chkS gi ci x s && chkSs gi ci xs ss
    | _ => false
end
end

section
variable {F : Fn} {gi : Gi} {U : Above} {k Wf : Nat} {X : Cx} {W : WX} {ci : Ci}
theorem fun_kind {sc : Scope} (h : (match sc.kind with | .function => true | _ => false) = true) : sc.kind = .function := by
  split at h
  · assumption
  · cases h
theorem sw_tup {ts : List Expr} {kt : Nat} {pt : Pos} {e : Expr} {env : Env} (h : tupVal e = true) : swappedStores [.Tuple ts kt pt] e env = pure none := by
  cases e with
  | Tuple vs k p =>
    have hf : vs.all (foldedForSure 8) = true := h
    unfold swappedStores
    simp only [hf, if_true]
    split
    · rfl
    · split
      · rfl
      · split <;> rfl
  | _ => rfl
theorem sw_par {x y : Str} {px py pt pt2 : Pos} {kt k2 : Nat} {ea eb : Expr} {env : Env} {ci : Ci} (hsc : env.scope = ci.sc) (h : parC ci x y px py ea eb = true) : swappedStores [.Tuple [.Name x px, .Name y py] kt pt] (.Tuple [ea, eb] k2 pt2) env = pure (some [x, y]) := by
  simp only [parC, Bool.and_eq_true, decide_eq_true_eq, Bool.not_eq_true'] at h
  obtain ⟨⟨⟨⟨⟨⟨⟨⟨h1, h2⟩, h3⟩, h4⟩, h5⟩, h6⟩, h7⟩, h8⟩, h9⟩ := h
  have kx : env.kindOf x = some .local := by show env.scope.names.lookup x = _; rw [hsc]; exact lcl_of h1
  have ky : env.kindOf y = some .local := by show env.scope.names.lookup y = _; rw [hsc]; exact lcl_of h2
  have hb : env.blockKind = .function := by unfold Env.blockKind; rw [hsc, fun_kind h9]; rfl
  have hl : py.line = px.line := (beq_iff_eq.mp h3).symm
  have nost : ([ea, eb].any fun | .Starred .. => true | _ => false) = false := by
    cases ea with
    | Starred _ _ => cases h5
    | _ => cases eb with
      | Starred _ _ => cases h6
      | _ => rfl
  have hd : [x, y].eraseDups.length = 2 := by
    simp [List.eraseDups_cons, h4, Ne.symm h4]
  unfold swappedStores
  simp only [hb, kx, ky, hl, h7, h8, nost, Expr.pos, List.filterMap, List.head?, Option.map, Option.getD]
  simp [hd, Ne.symm h4, h4]
  intro hh
  exfalso
  rcases hh with hh | hh
  · cases ea with
    | Starred _ _ => cases h5
    | _ => cases hh
  · cases eb with
    | Starred _ _ => cases h6
    | _ => cases hh

/-! ### soundness -/
theorem Okc.suite (ok : Okc X F W gi ci U k) (a : Addr) (pn : List (Addr × Obj)) : Okc (X.suite a pn) F WN gi ci.suite U k where
  glo := ok.glo
  hN := ok.hN
  nd := ok.nd
  sc := ok.sc
  fn := ok.fn
  calm := rfl
  hu := ok.hu
  room := fun h => by cases h
  lets := lets_WN _
  top := fun h => by cases h
theorem Okc.tr (ok : Okc X F W gi ci U k) (ht : ci.top = true) {W' : WX} (pn : List (Addr × Obj)) (xe : Value → Shared → Prop) (tk : Takes (X.tr pn xe) W') (hp : PassesOwn (model X.prog X.w) X.A X.env xe) : Okc (X.tr pn xe) F W' gi ci U k where
  glo := ok.glo
  hN := ok.hN
  nd := ok.nd
  sc := ok.sc
  fn := ok.fn
  calm := ok.calm
  hu := ok.hu
  room := ok.room
  lets := fun σ => passAt tk σ
  top := fun _ => ⟨tk, (ok.top ht).2.1, (ok.top ht).2.2.1, hp⟩
theorem noSlice_asg {o i : Expr} {pos : Pos} {env : Env} (h : noSlice i = true) : ∀ v, assign (.Subscript o i pos) env v = (do
      let ov ← holding [v] (eval o env)
      let iv ← holding [v, ov] (eval i env)
      standAt pos
      holding [v, ov, iv] (setItem ov iv v)
      release [v, ov, iv] []) := by
  intro v
  cases i with
  | Slice _ _ _ _ => cases h
  | _ => rfl
theorem noSlice_aug {i : Expr} (h : noSlice i = true) : ∀ ov iv new, augStore i ov iv new = (do holding [new, ov, iv] (setItem ov iv new); release [new, ov, iv] []; pure .next) := by
  intro ov iv new
  cases i with
  | Slice _ _ _ _ => cases h
  | _ => rfl
theorem sw_sole {tg e : Expr} {l : Nat} {env : Env} (h : noCmp e = true) : swapsWithSole [tg] e l env = pure false := noCmp_of h
mutual
theorem sndS : ∀ (x : Sx) {X : Cx} {W : WX} {ci : Ci} {s : Stmt}, Okc X F W gi ci U k → chkS gi ci x s = true → PS X s (tS X.K F U Wf W x)
  | .expr x, X, W, ci, s, ok, h => by
    simp only [chkS] at h
    split at h
    · simp only [Bool.and_eq_true] at h
      exact sd_expr (sndE x ok h.2).1 (noCmp_of h.1)
    · exact ft h
  | .ret x, X, W, ci, s, ok, h => by
    simp only [chkS] at h
    split at h
    · exact sd_ret (sndE x ok h).1
    · exact ft h
  | .retN, X, W, ci, s, ok, h => by
    simp only [chkS] at h
    split at h
    · exact sd_retN
    · exact ft h
  | .asg (.tg g) x, X, W, ci, s, ok, h => by
    simp only [chkS] at h
    split at h
    · rename_i i y py e p
      simp only [Bool.and_eq_true, Bool.or_eq_true] at h
      obtain ⟨⟨h1, h2⟩, h3⟩ := h
      have he := sndE x ok h1
      obtain ⟨x', p', e', n1, n2, n3⟩ := nameC_ok ok h2
      cases e'
      rcases h3 with h3 | h3
      · exact sd_set ok.hN' (.nm n1 n2 n3) he.1 (noCmp_of h3)
      · split at h3
        · simp only [Bool.and_eq_true, Bool.not_eq_true', Bool.or_eq_true] at h3
          rcases h3 with h3 | h3
          case inr => exact sd_set ok.hN' (.nm n1 n2 n3) he.1 (sw_false (by rw [ok.sc]; exact cel_of h3))
          obtain ⟨⟨⟨c1, c2⟩, c3⟩, c4⟩ := h3
          have ly : X.env.scope.names.lookup y = some .local := by rw [ok.sc]; exact lcl_of c1
          exact sd_setC (he.2 i _ _ p rfl n1 ly (sw_true (by rw [ok.sc]; exact fun_kind c4) ly c2 c3))
        · exact ft h3
    · simp only [Bool.and_eq_true] at h
      obtain ⟨⟨⟨h1, h2⟩, h3⟩, h4⟩ := h
      exact sd_asg ok.hN' (tgC_ok ok h2) (sndE x ok h1).1 (sw_sole h3) (sw_tup h4) rfl
    · exact ft h
  | .asg (.fld o c f) x, X, W, ci, s, ok, h => by
    simp only [chkS] at h
    split at h
    · simp only [Bool.and_eq_true, decide_eq_true_eq] at h
      obtain ⟨⟨⟨⟨rfl, h1⟩, h2⟩, h3⟩, h4⟩ := h
      exact sd_fld (ok.glo.noat _ _ h1) (sndE o ok h3).1 (sndE x ok h4).1 (noCmp_of h2)
    · exact ft h
  | .asg (.sub o i) x, X, W, ci, s, ok, h => by
    simp only [chkS] at h
    split at h
    · simp only [Bool.and_eq_true] at h
      obtain ⟨⟨⟨⟨h1, h2⟩, h3⟩, h4⟩, h5⟩ := h
      exact sd_sub (sndE o ok h3).1 (sndE i ok h4).1 (by rename_i eo ei _ _ _; cases ei <;> first | rfl | cases h1) (sndE x ok h5).1 (sw_sole h2) (noSlice_asg h1)
    · exact ft h
  | .par i j a b, X, W, ci, s, ok, h => by
    simp only [chkS] at h
    split at h
    · simp only [Bool.and_eq_true, decide_eq_true_eq] at h
      obtain ⟨⟨⟨⟨⟨⟨h1, h2⟩, h3⟩, h4⟩, h5⟩, h6⟩, h7⟩ := h
      have hw := h2
      simp only [parC, Bool.and_eq_true, decide_eq_true_eq, Bool.not_eq_true'] at h2
      obtain ⟨⟨⟨⟨⟨⟨⟨⟨c1, c2⟩, c3⟩, c4⟩, c5⟩, c6⟩, c7⟩, c8⟩, c9⟩ := h2
      exact sd_par (by rw [ok.calm]; exact h1) ok.hN' (ok.slot h3) (ok.slot h4) h5 (by rw [ok.sc]; exact lcl_of c1) (by rw [ok.sc]; exact lcl_of c2)
        (.cons (sndE a ok h6).1 (star_of c5) (.cons (sndE b ok h7).1 (star_of c6) .nil)) (sw_par ok.sc hw) rfl
    · exact ft h
  | .aug i op x, X, W, ci, s, ok, h => by
    simp only [chkS] at h
    split at h
    · simp only [Bool.and_eq_true, decide_eq_true_eq] at h
      obtain ⟨⟨⟨rfl, h1⟩, h2⟩, h3⟩ := h
      obtain ⟨x', p', e', n1, n2, n3⟩ := nameC_ok ok h2
      cases e'
      exact sd_aug h1 ok.hN' (.nm n1 n2 n3) (sndE x ok h3).1
    · exact ft h
  | .augF _ _ _ _ _, X, W, ci, s, ok, h => by simp only [chkS] at h; exact ft h
  | .augS o i op x, X, W, ci, s, ok, h => by
    simp only [chkS] at h
    split at h
    · simp only [Bool.and_eq_true, decide_eq_true_eq] at h
      obtain ⟨⟨⟨⟨⟨rfl, h1⟩, h2⟩, h3⟩, h4⟩, h5⟩ := h
      exact sd_augS h1 (sndE o ok h3).1 (sndE i ok h4).1 (sndE x ok h5).1 (noSlice_aug h2)
    · exact ft h
  | .ifs c a b, X, W, ci, s, ok, h => by
    simp only [chkS] at h
    split at h
    · simp only [Bool.and_eq_true] at h
      exact sd_if (sndT c ok h.1.1) (sndSs a ok h.1.2) (sndSs b ok h.2)
    · exact ft h
  | .fors g it b, X, W, ci, s, ok, h => by
    simp only [chkS] at h
    split at h
    · simp only [Bool.and_eq_true] at h
      obtain ⟨⟨⟨⟨⟨h1, h2⟩, h3⟩, h4⟩, h5⟩, h6⟩ := h
      exact sd_for (ok.top h1).2.2.2 (by rw [ok.calm]; exact h2) ok.hN' (sndI it ok h4) (tgC_ok ok h5) (sndSs b ok h6) (noSet_of h3 X.env)
    · exact ft h
  | .forV g i b, X, W, ci, s, ok, h => by
    simp only [chkS] at h
    split at h
    · simp only [Bool.and_eq_true, decide_eq_true_eq] at h
      obtain ⟨⟨⟨⟨⟨⟨h1, h2⟩, rfl⟩, h4⟩, h5⟩, h6⟩, h7⟩ := h
      obtain ⟨x', p', e', v1, v2, v3, v4⟩ := varC_ok ok h5
      cases e'
      exact sd_forV (ok.top h1).2.2.2 (by rw [ok.calm]; exact h2) ok.hN' v1 v2 v3 v4 (tgC_ok ok h6) (sndSs b ok h7) h4
    · exact ft h
  | .whil c b, X, W, ci, s, ok, h => by
    simp only [chkS] at h
    split at h
    · simp only [Bool.and_eq_true] at h
      exact sd_while (ok.top h.1.1).2.2.2 (sndT c ok h.1.2) (sndSs b ok h.2)
    · exact ft h
  | .raise c, X, W, ci, s, ok, h => by
    simp only [chkS] at h
    split at h
    · simp only [Bool.and_eq_true, decide_eq_true_eq] at h
      obtain ⟨⟨⟨⟨⟨h1, h2⟩, rfl⟩, h4⟩, h5⟩, h6⟩ := h
      obtain ⟨e1, e2, e3, e4, e5⟩ := ok.glo.exc _ h6
      exact sd_raise (by rw [ok.calm]; exact h2) (ok.top h1).1 (pmk_own PySem.F.excBase_ValueError e2 e1 e3 (raises_own e4 e5) (ok.glb h4) (nm_of h5).1)
    · exact ft h
  | .tryO c b ss, X, W, ci, s, ok, h => by
    simp only [chkS] at h
    split at h
    · simp only [Bool.and_eq_true, decide_eq_true_eq] at h
      obtain ⟨⟨⟨⟨⟨⟨h1, rfl⟩, h4⟩, h5⟩, h6⟩, h7⟩, h8⟩ := h
      obtain ⟨e1, _⟩ := ok.glo.exc _ h6
      obtain ⟨tk, hst, hfm, hp⟩ := ok.top h1
      exact sd_try hst hfm ⟨ok.glb h4, (nm_of h5).1, .inl e1⟩ tk (fun c' b' hu => ok.glo.up c' _ b' hu) (fun W' pn xe tk' hp' => sndSs b (ok.tr h1 pn xe tk' hp') h7) (fun a pn => sndSs ss (ok.suite a pn) h8)
    · exact ft h
  | .brk, X, W, ci, s, ok, h => by
    simp only [chkS] at h
    split at h
    · exact sd_brk
    · exact ft h
  | .cont, X, W, ci, s, ok, h => by
    simp only [chkS] at h
    split at h
    · exact sd_cont
    · exact ft h
  | .pass, X, W, ci, s, ok, h => by
    simp only [chkS] at h
    split at h
    · exact sd_pass
    · exact ft h
  | .bad, X, W, ci, s, ok, h => sd_bad
theorem sndSs : ∀ (xs : SxL) {X : Cx} {W : WX} {ci : Ci} {ss : List Stmt}, Okc X F W gi ci U k → chkSs gi ci xs ss = true → PSs X ss (tSs X.K F U Wf W xs)
  | .nil, X, W, ci, ss, ok, h => by
    simp only [chkSs] at h
    split at h
    · exact sd_nil
    · exact ft h
  | .cons x xs, X, W, ci, ss, ok, h => by
    simp only [chkSs] at h
    split at h
    · simp only [Bool.and_eq_true] at h
      exact sd_cons (sndS x ok h.1) (sndSs xs ok h.2)
    · exact ft h
end
end
end Ev

set_option Elab.async false
set_option linter.all false
set_option maxRecDepth 100000
set_option autoImplicit false
/-! Ev22: a def of the program does what the evaluator says. -/
namespace Ev
open PySem PySem.Spec PyProof.Rows L2
open He (ga ma)

/-! ### what a call has made and nobody sees is forgotten -/
section
variable {K : PySem.W.Frag} {ι ι' : List Addr} {H H' : Hp} {h h' : Hb}
mutual
theorem Rv.back (p : ∀ (n : Nat) (a : Addr), ι[n]? = some a → ι'[n]? = some a) : ∀ {d : D} {v0 v : V}, Rv K ι H d v0 → Rv K ι' H' d v → Rv K ι H' d v
  | _, _, _, .non, .non => .non
  | _, _, _, .bl _, .bl b => .bl b
  | _, _, _, .int _, .int i => .int i
  | _, _, _, .str _, .str s => .str s
  | _, _, _, .ref e0, .ref e => .ref (by have := p _ _ e0; rw [e] at this; cases this; exact e0)
  | _, _, _, .tup _ r0, .tup e r => .tup e (Rvs.back p r0 r)
  | _, _, _, .kt _ r0, .kt e r => .kt e (Rvs.back p r0 r)
  | _, _, _, .kl _ r0, .kl e r => .kl e (Rvs.back p r0 r)
theorem Rvs.back (p : ∀ (n : Nat) (a : Addr), ι[n]? = some a → ι'[n]? = some a) : ∀ {ds : List D} {v0 vs : List V}, Rvs K ι H ds v0 → Rvs K ι' H' ds vs → Rvs K ι H' ds vs
  | _, _, _, .nil, .nil => .nil
  | _, _, _, .cons a0 b0, .cons a b => .cons (Rv.back p a0 a) (Rvs.back p b0 b)
end
mutual
theorem Rv.noRef {ι2 : List Addr} : ∀ {d : D} {v : V}, noRef d = true → Rv K ι' H' d v → Rv K ι2 H' d v
  | _, _, _, .non => .non
  | _, _, _, .bl b => .bl b
  | _, _, _, .int i => .int i
  | _, _, _, .str s => .str s
  | _, _, h, .ref _ => by simp [Ev.noRef] at h
  | _, _, h, .tup e r => .tup e (Rvs.noRef (by simpa [Ev.noRef] using h) r)
  | _, _, h, .kt _ _ => by simp [Ev.noRef] at h
  | _, _, h, .kl _ _ => by simp [Ev.noRef] at h
theorem Rvs.noRef {ι2 : List Addr} : ∀ {ds : List D} {vs : List V}, noRef.noRefs ds = true → Rvs K ι' H' ds vs → Rvs K ι2 H' ds vs
  | _, _, _, .nil => .nil
  | _, _, h, .cons a b => by
    simp only [Ev.noRef.noRefs, Bool.and_eq_true] at h
    exact .cons (Rv.noRef h.1 a) (Rvs.noRef h.2 b)
end
theorem Rkv.back {κ : Type} (p : ∀ (n : Nat) (a : Addr), ι[n]? = some a → ι'[n]? = some a) {ds : List (κ × D)} {v0 vs : List (κ × V)} (r0 : Rkv K ι H ds v0) (r : Rkv K ι' H' ds vs) : Rkv K ι H' ds vs := by
  induction ds generalizing v0 vs with
  | nil => cases r; exact .nil
  | cons d ds ih => cases r0 with | cons a0 b0 => cases r with | cons a b => exact .cons ⟨a.1, Rv.back p a0.2 a.2⟩ (ih b0 b)
theorem Ro.back (p : ∀ (n : Nat) (a : Addr), ι[n]? = Option.some a → ι'[n]? = Option.some a) {a : Addr} {o : Ob} (r0 : Ro K ι H a o) (r : Ro K ι' H' a o) : Ro K ι H' a o := by
  cases o with
  | lst ds => obtain ⟨_, _, q0⟩ := r0; obtain ⟨vs, e, q⟩ := r; exact ⟨vs, e, q0.back p q⟩
  | dk ds => obtain ⟨_, _, q0⟩ := r0; obtain ⟨vs, e, q⟩ := r; exact ⟨vs, e, q0.back p q⟩
  | dt ds => obtain ⟨_, _, q0⟩ := r0; obtain ⟨vs, e, q⟩ := r; exact ⟨vs, e, q0.back p q⟩
  | ins c fs => obtain ⟨_, _, _, q0, _⟩ := r0; obtain ⟨dx, vs, e, q, c1⟩ := r; exact ⟨dx, vs, e, q0.back p q, c1⟩
  | frz o => cases o with
    | dt kvs => obtain ⟨_, _, _, q0⟩ := r0; obtain ⟨od, vs, e, q⟩ := r; exact ⟨od, vs, e, q0.back p q⟩
    | _ => exact r.elim
theorem R.cut (hR : R K ι h H) (hR' : R K ι' h' H') (x : Ext K ι H ι' H') (e : h'.take h.length = h) : R K ι h H' := by
  refine ⟨hR.len, fun n o a e1 e2 => ?_, hR.inj⟩
  have hn := (List.getElem?_eq_some_iff.mp e1).1
  have e1' : h'[n]? = some o := by
    have : (h'.take h.length)[n]? = some o := by rw [e]; exact e1
    rw [List.getElem?_take_of_lt hn] at this; exact this
  exact (hR.obj n o a e1 e2).back x.pre (hR'.obj n o a e1' (x.pre n a e2))
theorem Ext.cut (x : Ext K ι H ι' H') : Ext K ι H ι H' := ⟨⟨fun _ _ e => e, x.tups, x.lsts⟩, fun a o n e => ⟨(x.frame a o n e).1, n⟩, x.frzs⟩
theorem gc_good {d : D} {v : V} {Q : VK} {Qx : XK} (hR : R K ι h H) (g : Good K ι H (gc h.length h d h') (RelE K) Q Qx) (x : Ext K ι H ι' H') (hR' : R K ι' h' H') (rv : Rv K ι' H' d v) : Q v H' := by
  have dflt : Good K ι H (.ok d h') (RelE K) Q Qx → Q v H' := fun g => g ι' H' v x hR' rv
  unfold gc at g
  split at g
  · rename_i et
    split at g
    · rename_i m
      obtain ⟨a, rfl, ea⟩ := rv.ref_inv
      split at g
      · rename_i hm
        have hl : m < ι.length := by rw [hR.len]; exact hm
        have ei := List.getElem?_eq_getElem hl
        have := x.pre _ _ ei
        rw [ea] at this
        have e' : ι[m]? = some a := by rw [ei]; exact this.symm
        exact g ι H' (.ref a) x.cut (hR.cut hR' x et) (.ref e')
      · rename_i hm
        split at g
        · rename_i ds eo
          split at g
          · rename_i hnr
            obtain ⟨vs, ev, rr⟩ := hR'.obj _ _ _ eo ea
            have mo : Mo K ι H' (ι ++ [a]) H' := ⟨fun n b e => by rw [List.getElem?_append_left (List.getElem?_eq_some_iff.mp e).1]; exact e, fun _ _ e => e, fun _ _ _ e => e⟩
            have rc := hR.cut hR' x et
            have na : ∀ (n : Nat) (o : Ob), h[n]? = some o → ι[n]? ≠ some a := fun n o en ei => by
              have hn := (List.getElem?_eq_some_iff.mp en).1
              have en' : h'[n]? = some o := by
                have : (h'.take h.length)[n]? = some o := by rw [et]; exact en
                rw [List.getElem?_take_of_lt hn] at this; exact this
              have := hR'.inj n m a o _ (x.pre _ _ ei) ea en' eo rfl rfl
              omega
            have old : ∀ (n : Nat) (o : Ob) (b : Addr), (h ++ [Ob.lst ds])[n]? = some o → (ι ++ [a])[n]? = some b → (h[n]? = some o ∧ ι[n]? = some b) ∨ (n = h.length ∧ o = .lst ds ∧ b = a) := fun n o b e1 e2 => by
              by_cases hn : n < h.length
              · rw [List.getElem?_append_left hn] at e1
                rw [List.getElem?_append_left (by rw [hR.len]; exact hn)] at e2
                exact .inl ⟨e1, e2⟩
              · have hz : n = h.length := by
                  have := (List.getElem?_eq_some_iff.mp e1).1
                  simp at this; omega
                subst hz
                rw [List.getElem?_append_right (Nat.le_refl _)] at e1
                rw [List.getElem?_append_right (by rw [hR.len]; exact Nat.le_refl _), hR.len] at e2
                simp at e1 e2
                exact .inr ⟨rfl, e1.symm, e2.symm⟩
            refine g (ι ++ [a]) H' (.ref a) ⟨⟨mo.pre, x.tups, x.lsts⟩, fun b o n e => ⟨(x.frame b o n e).1, ?_⟩, x.frzs⟩ ⟨by simp [hR.len], fun n o b e1 e2 => ?_, fun n m' b o o' e1 e2 e3 e4 _ _ => ?_⟩ (.ref ?_)
            · have nb := (x.frame b o n e).2
              simp only [List.mem_append, List.mem_singleton, not_or]
              exact ⟨n, fun z => nb (by rw [z]; exact List.mem_of_getElem? ea)⟩
            · rcases old n o b e1 e2 with ⟨q1, q2⟩ | ⟨rfl, rfl, rfl⟩
              · exact Ro.mo mo (fun vs s => s) (fun _ => rfl) (rc.obj n o b q1 q2)
              · exact ⟨vs, ev, rr.noRef hnr⟩
            · rcases old n o b e3 e1 with ⟨q1, q2⟩ | ⟨q1, q2, q3⟩
              · rcases old m' o' b e4 e2 with ⟨q1', q2'⟩ | ⟨q1', q2', q3'⟩
                · exact hR.inj n m' b o o' q2 q2' q1 q1' rfl rfl
                · exact absurd (by rw [q2, q3']) (na n o q1)
              · rcases old m' o' b e4 e2 with ⟨q1', q2'⟩ | ⟨q1', q2', q3'⟩
                · exact absurd (by rw [q2', q3]) (na m' o' q1')
                · rw [q1, q1']
            · rw [← hR.len, List.getElem?_append_right (Nat.le_refl _)]; simp
          · exact dflt g
        · exact dflt g
    · split at g
      · rename_i hnr
        exact g ι H' v x.cut (hR.cut hR' x et) (rv.noRef hnr)
      · exact dflt g
  · exact dflt g
theorem gcX_good {c : Str} {fs : List (Str × D)} {Q : VK} {Qx : XK} {cls : Value} {dx : Option Addr} (hR : R K ι h H) (g : Good K ι H (gcX h.length h c fs h') (RelE K) Q Qx) (x : Ext K ι H ι' H') (hR' : R K ι' h' H') (rx : RX K ι' H' c fs cls dx) : Qx cls dx H' := by
  unfold gcX at g
  split at g
  · rename_i et
    obtain ⟨et, rfl⟩ := et
    refine g ι H' cls dx x.cut (hR.cut hR' x et) ⟨rx.1, ?_⟩
    rcases rx.2 with z | ⟨a, ws, e1, e2, e3⟩
    · exact .inl z
    · exact .inr ⟨a, ws, e1, e2, by cases e3; exact .nil⟩
  · exact g ι' H' cls dx x hR' rx
end

/-! ### defs -/
section
variable {P : Program} {w : World} {K : PySem.W.Frag} {mg : Str → Option Value} {base : Heap} {gi : Gi} {G : Pg} {Wf n : Nat}
theorem start_rn {d : Df} {ds : List D} {vs : List V} {ι : List Addr} {H : Hp} (r : Rvs K ι H ds vs) : Rn K ι H (startEn d ds) (L2.start d.names vs) := by
  refine ⟨by simp [startEn, L2.start, r.length], fun i x e => ?_⟩
  unfold startEn at e
  by_cases hi : i < ds.length
  · rw [List.getElem?_append_left (by simpa using hi), List.getElem?_map] at e
    simp only [Option.map_eq_some_iff] at e
    obtain ⟨d', e1, e2⟩ := e
    cases e2
    obtain ⟨v, hv, rv⟩ := r.get e1
    refine ⟨v, ?_, rv⟩
    unfold L2.start
    rw [List.getElem?_append_left (by simpa [← r.length] using hi), List.getElem?_map, hv]; rfl
  · rw [List.getElem?_append_right (by simpa using Nat.le_of_not_lt hi), List.getElem?_replicate] at e
    split at e <;> cases e
/-- a def's context -/
def defCi (d : Df) (sc : Scope) : Ci := ⟨d.names, sc, fun _ => true, true, true⟩
theorem fn_sound {c m : Str} {d : Df} {x qual : Str} {params : Arguments} {body : List Stmt} {scope : Scope} {f : Addr} {fd : FuncData} (glo : Glo P w K mg base (fnN G Wf n) gi G.above (2 * n)) (hl : G.defs.lookup (c, m) = some d)
    (FD : FunD K x qual params body scope [] [] f fd) (S : FnScope d.names d.pars scope) (hc : chkSs gi (defCi d scope) d.body body = true) : FnOk P w K mg base (L2.CX P w) (2 * (n + 1)) f fd d.pars (spF K (fnN G Wf (n + 1)) c m) := by
  have run : ∀ {ds : List D} {h : Hb} {r : Res D}, (fnN G Wf (n + 1)).run c m ds h = some r → runDf (fnN G Wf n) G.above Wf d ds h = some r := fun {ds h r} e => by
    have e' : (match G.defs.lookup (c, m) with
      | some d => runDf (fnN G Wf n) G.above Wf d ds h
      | none => none) = some r := e
    rw [hl] at e'; exact e'
  refine FD.ok (k := 2 * n + 1) S (fun vs H Q E hsp => ?_) fun cdv A outer s H vs Q E hr hsp => ?_
  · obtain ⟨ι, h, ds, r, _, rv, e, _⟩ := hsp
    have e' := run e
    unfold runDf at e'
    split at e'
    · rename_i hlen; rw [← rv.length]; exact hlen
    · cases e'
  · obtain ⟨ι, h, ds, r, hR, rv, e, g⟩ := hsp
    have e' := run e
    have tk : Takes (cxOf (L2.CX P w) P w K mg base d.names qual scope f cdv A outer s H E) (fun cls dd _ H => E cls dd H) := takes_of rfl rfl rfl rfl
    have ok : Okc (cxOf (L2.CX P w) P w K mg base d.names qual scope f cdv A outer s H E) (fnN G Wf n) (fun cls dd _ H => E cls dd H) gi (defCi d scope) G.above (2 * n) :=
      { glo := glo, hN := rfl, nd := S.nd, sc := rfl, fn := fun _ _ => rfl, calm := rfl, hu := by have := hr.un; show (A.deeper _).units + 65 < cLine; omega, room := fun _ => hr, lets := fun σ => passAt tk σ, top := fun _ => ⟨tk, rfl, rfl, passes_of rfl⟩ }
    refine ⟨tSs K (fnN G Wf n) G.above Wf (fun cls dd _ H => E cls dd H) d.body, sndSs d.body ok hc, ?_⟩
    unfold runDf at e'
    split at e'
    · cases eb : evSs (fnN G Wf n) G.above Wf d.body (startEn d ds) h with
      | none => rw [eb] at e'; cases e'
      | some rb =>
        rw [eb] at e'
        refine ⟨ι, h, startEn d ds, rb, hR, start_rn rv, eb, ?_⟩
        cases rb with
        | nx ρ' h' => cases e'; exact fun ι' H' σ' x hR' _ => gc_good hR g x hR' .non
        | ret v h' => cases e'; exact fun ι' H' b x hR' rb => gc_good hR g x hR' rb
        | exc cn fs ρ' h' => cases e'; exact fun ι' H' σ' cls dd x hR' _ rx => gcX_good hR g x hR' rx
        | brk _ _ => cases e'
        | cont _ _ => cases e'
    · cases e'
/-- no level: nothing is promised -/
theorem fn_zero {c m : Str} {f : Addr} {fd : FuncData} {ps : List Str} : FnOk P w K mg base (L2.CX P w) 0 f fd ps (spF K (fnN G Wf 0) c m) :=
  ⟨fun vs H Q E ⟨_, _, _, _, _, _, e, _⟩ => (by cases e), fun A outer s H args us vs Q E _ _ _ _ ⟨_, _, _, _, _, _, e, _⟩ => by cases e⟩
end
end Ev

set_option Elab.async false
set_option linter.all false
set_option maxRecDepth 100000
set_option autoImplicit false
/-! Ev23: a whole program. -/
namespace Ev
open PySem PySem.Spec PyProof.Rows L2
open He (ga ma)

/-- a def of the text and what we say of it -/
structure Entry where
  d : He.DefD
  df : Df
def keyD (p : Str × Option Str) : Str × Str := match p.2 with
  | none => (Str.empty, p.1)
  | some m => (p.1, m)
def aboveOf (exm : List (Str × Str × Bool)) : Above := fun c' c => (exm.find? fun t => decide (t.1 = c' ∧ t.2.1 = c)).map (·.2.2)
def pgOf (es : List Entry) (exm : List (Str × Str × Bool)) : Pg := ⟨es.map fun e => (keyD e.d.at_, e.df), aboveOf exm⟩
/-- the facts of the module's start that are asked -/
def needFa (es : List Entry) (gi : Gi) (exm : List (Str × Str × Bool)) : List He.Fa :=
  gi.free.map .free ++ (gi.gi1.map fun p => .int p.1 p.2) ++ gi.fns.map .glo ++ gi.cls.map .glo ++ gi.cls.map .cls ++ gi.cls.map .mkr ++ gi.excs.map .glo ++ gi.excs.map .exc ++ (gi.noat.map fun p => .noat p.1 p.2) ++
    (es.filterMap fun e => match e.d.at_.2 with | some _ => some (.cls e.d.at_.1) | none => none) ++ (es.filterMap fun e => match e.d.at_.2 with | some m => some (.meth e.d.at_.1 m) | none => none) ++ (exm.map fun t => .exm t.1 t.2.1 t.2.2)
/-- tuples of texts at the top -/
def sameS : List Value → List D → Bool
  | .str s _ :: r, .str t :: q => decide (s = t) && sameS r q
  | [], [] => true
  | _, _ => false
def tupB (K : PySem.W.Frag) (x : Str) (ds : List D) : Bool := He.eqO (PySem.W.nsIn K mainGlobals x) (some (some (.ref (ga K x)))) && (match K.lookup (ga K x) with
  | some ⟨c, _, .seq its _, _⟩ => decide (c = .type "tuple") && (decide (its.size ≤ 1000) && sameS its.toList ds)
  | _ => false)
def exB (gi : Gi) (K : PySem.W.Frag) : Bool := gi.gi2.all fun p => tupB K p.1 p.2
theorem sameS_ok {K : PySem.W.Frag} : ∀ {its : List Value} {ds : List D}, sameS its ds = true → ∃ vs, Vals vs its ∧ ∀ ι H, Rvs K ι H ds vs
  | [], [], _ => ⟨[], .nil, fun _ _ => .nil⟩
  | [], _ :: _, h => by simp [sameS] at h
  | v :: r, ds, h => by
    cases v with
    | str s t =>
      cases ds with
      | nil => exact ft h
      | cons d ds =>
        cases d with
        | str s' =>
          simp only [sameS, Bool.and_eq_true, decide_eq_true_eq] at h
          obtain ⟨rfl, h⟩ := h
          obtain ⟨vs, h1, h2⟩ := sameS_ok (K := K) h
          exact ⟨.str s :: vs, .cons ⟨t, rfl⟩ h1, fun ι H => .cons (.str s) (h2 ι H)⟩
        | _ => exact ft h
    | _ => cases ds <;> exact ft h
theorem tupB_ok {K : PySem.W.Frag} {h : Heap} {mg : Str → Option Value} {x : Str} {ds : List D} (X : K.In h) (G : h.Ns mainGlobals mg) (c : tupB K x ds = true) : ∃ a, mg x = some (.ref a) ∧ ∀ ι H, Rv K ι H (.kt ds) (.ref a) := by
  unfold tupB at c
  obtain ⟨c1, c2⟩ := He.ba c
  refine ⟨ga K x, PySem.W.mg_of X G (He.eqO_ok c1), fun ι H => ?_⟩
  split at c2
  · rename_i oc od its n sl ho
    simp only [Bool.and_eq_true, decide_eq_true_eq] at c2
    obtain ⟨rfl, hz, hs⟩ := c2
    obtain ⟨vs, h1, h2⟩ := sameS_ok (K := K) hs
    exact .kt ⟨_, its, n, ho, rfl, rfl, sl1000 hz, h1⟩ (h2 ι H)
  · cases c2

def BindOk (d : He.DefD) (ps : List Str) : Prop := ∀ (kV doc pm : Value) (an : Option Addr) (cdv ct : Value) (us : List Value), us.length = ps.length → bindArgs (PySem.W.fnOf d.name d.qual d.params d.body d.scope .none kV doc pm an cdv ct) ⟨us, []⟩ = pure (ps.zip us)
/-- what is checked of a program -/
structure ProgOk (es : List Entry) (gi : Gi) : Prop where
  chk : ∀ e ∈ es, chkSs gi (defCi e.df e.d.scope) e.df.body e.d.body = true
  scp : ∀ e ∈ es, FnScope e.df.names e.df.pars e.d.scope
  bnd : ∀ e ∈ es, BindOk e.d e.df.pars
  dfl : ∀ e ∈ es, e.d.dfl = [] ∧ e.d.kwd = []
  fns : ∀ f ∈ gi.fns, ∃ e ∈ es, e.d.at_ = (f, none)
  cls : ∀ c ∈ gi.cls, ∃ e ∈ es, e.d.at_ = (c, some ("__init__" : Str))
  nd : (es.map fun e => keyD e.d.at_).Nodup

theorem lookup_nd {α : Type} {κ : Type} [BEq κ] [LawfulBEq κ] : ∀ {l : List (κ × α)} {p : κ × α}, (l.map (·.1)).Nodup → p ∈ l → l.lookup p.1 = some p.2
  | q :: l, p, nd, h => by
    simp only [List.map_cons, List.nodup_cons] at nd
    rcases List.mem_cons.mp h with rfl | h
    · simp [List.lookup]
    · have hne : p.1 ≠ q.1 := fun e => nd.1 (by rw [← e]; exact List.mem_map_of_mem h)
      have hb : (p.1 == q.1) = false := by simpa using hne
      show (match p.1 == q.1 with | true => some q.2 | false => l.lookup p.1) = some p.2
      rw [hb]
      exact lookup_nd nd.2 h
theorem lookup_memD {α : Type} {κ : Type} [BEq κ] [LawfulBEq κ] [DecidableEq κ] : ∀ {l : List (κ × α)} {k : κ} {a : α}, l.lookup k = some a → (k, a) ∈ l
  | q :: l, k, a, h => by
    by_cases hk : k = q.1
    · subst hk
      simp [List.lookup] at h
      subst h
      simp
    · have hb : (k == q.1) = false := by simpa using hk
      have h' : l.lookup k = some a := by
        have : (match k == q.1 with | true => some q.2 | false => l.lookup k) = some a := h
        rw [hb] at this; exact this
      exact List.mem_cons_of_mem _ (lookup_memD h')
section
variable {P : Program} {w : World} {K : PySem.W.Frag} {mg : Str → Option Value} {base : Heap} {es : List Entry} {gi : Gi} {exm : List (Str × Str × Bool)} {Wf : Nat}
/-- a def as it lies -/
abbrev Lies (K : PySem.W.Frag) (e : Entry) (fd : FuncData) : Prop := FunD K e.d.name e.d.qual e.d.params e.d.body e.d.scope [] [] (He.fAd K e.d.at_) fd
theorem def_fd (po : ProgOk es gi) (SD : He.SaysD (needFa es gi exm) (es.map (·.d)) K) {e : Entry} (he : e ∈ es) : ∃ fd, Lies K e fd := by
  obtain ⟨fd, FD⟩ := SD.defs (d := e.d) (List.mem_map_of_mem he)
  obtain ⟨d1, d2⟩ := po.dfl e he
  have q := FD
  unfold He.DefD.dvs He.DefD.kws at q
  rw [d1, d2] at q
  exact ⟨fd, q⟩
/-- every def keeps its promise, at every level -/
theorem def_ok (po : ProgOk es gi) (n : Nat) (low : ∀ j, j < n → Glo P w K mg base (fnN (pgOf es exm) Wf j) gi (aboveOf exm) (2 * j)) {e : Entry} (he : e ∈ es) {fd : FuncData} (FD : Lies K e fd) :
    FnOk P w K mg base (L2.CX P w) (2 * n) (He.fAd K e.d.at_) fd e.df.pars (spF K (fnN (pgOf es exm) Wf n) (keyD e.d.at_).1 (keyD e.d.at_).2) := by
  cases n with
  | zero => exact fn_zero
  | succ n =>
    refine fn_sound (low n (Nat.lt_succ_self n)) ?_ FD (po.scp e he) (po.chk e he)
    exact lookup_nd (l := es.map fun e => (keyD e.d.at_, e.df)) (p := (keyD e.d.at_, e.df)) (by rw [List.map_map]; exact po.nd) (List.mem_map_of_mem (f := fun e => (keyD e.d.at_, e.df)) he)
theorem keyD_meth {p : Str × Option Str} {c m : Str} (h : keyD p = (c, m)) (hc : c ≠ Str.empty) : p = (c, some m) := by
  obtain ⟨x, y⟩ := p
  cases y with
  | none => exact absurd (Prod.mk.inj h).1.symm hc
  | some m' =>
    have h1 : x = c := (Prod.mk.inj h).1
    have h2 : m' = m := (Prod.mk.inj h).2
    rw [h1, h2]
theorem glo_core (po : ProgOk es gi) {h : Heap} (X : K.In h) (G : h.Ns mainGlobals mg) (SD : He.SaysD (needFa es gi exm) (es.map (·.d)) K) (hex : exB gi K = true) (n : Nat) (low : ∀ j, j < n → Glo P w K mg base (fnN (pgOf es exm) Wf j) gi (aboveOf exm) (2 * j)) :
    Glo P w K mg base (fnN (pgOf es exm) Wf n) gi (aboveOf exm) (2 * n) := by
  have fact : ∀ (z : He.Fa), z ∈ needFa es gi exm → z.ok K = true := fun z hz => SD.facts hz
  have hasEq : (fnN (pgOf es exm) Wf n).has = (pgOf es exm).hasM := by cases n <;> rfl
  refine ⟨fun x hx => ?_, fun x i hx => ?_, fun x ds hx => ?_, fun f hf => ?_, fun c hc => ?_, fun c m hm => ?_, fun c f hf => ?_, fun c hc => ?_, fun c' c b hb => ?_⟩
  · exact He.free_ok X G (fact _ (by simp [needFa, hx]))
  · have q : He.Fa.int x i ∈ gi.gi1.map fun p => He.Fa.int p.1 p.2 := List.mem_map.mpr ⟨(x, i), hx, rfl⟩
    exact He.int_ok X G (fact _ (by simp only [needFa, List.mem_append]; simp only [q, true_or, or_true]))
  · exact tupB_ok X G (List.all_eq_true.mp hex (x, ds) hx)
  · obtain ⟨e, he, ea⟩ := po.fns f hf
    obtain ⟨fd, FD⟩ := def_fd po SD he
    have kp := FD.kp
    have hb := FD.bindsN (po.bnd e he)
    have hF := def_ok po n low he FD
    rw [ea] at kp hF
    exact ⟨ga K f, fd, _, He.glo_ok X G (fact _ (by simp [needFa, hf])), kp, hb, hF⟩
  · obtain ⟨e, he, ea⟩ := po.cls c hc
    obtain ⟨fd, FD⟩ := def_fd po SD he
    have kp := FD.kp
    have hb := FD.bindsN (po.bnd e he)
    have hF := def_ok po n low he FD
    rw [ea] at kp hF
    exact ⟨ma K (ga K c) "__init__", fd, _, He.mkr_ok (fact _ (by simp [needFa, hc])), He.cls_ok (fact _ (by simp [needFa, hc])), He.glo_ok X G (fact _ (by simp [needFa, hc])), hb, hF⟩
  · rw [hasEq] at hm
    simp only [Pg.hasM, Bool.and_eq_true, decide_eq_true_eq] at hm
    obtain ⟨h1, h2⟩ := hm
    obtain ⟨df, h1⟩ := Option.isSome_iff_exists.mp h1
    have h3 := lookup_memD h1
    simp only [pgOf, List.mem_map] at h3
    obtain ⟨e, he, h3⟩ := h3
    obtain ⟨h4, h5⟩ := Prod.mk.inj h3
    obtain ⟨fd, FD⟩ := def_fd po SD he
    have kp := FD.kp
    have hb := FD.bindsN (po.bnd e he)
    have hF := def_ok po n low he FD
    have ea : e.d.at_ = (c, some m) := keyD_meth h4 h2
    rw [ea] at kp hF
    have m1 : He.Fa.cls c ∈ needFa es gi exm := by
      have q : He.Fa.cls c ∈ es.filterMap fun e => match e.d.at_.2 with | some _ => some (He.Fa.cls e.d.at_.1) | none => none := List.mem_filterMap.mpr ⟨e, he, by rw [ea]⟩
      simp only [needFa, List.mem_append]
      simp only [q, true_or, or_true]
    have m2 : He.Fa.meth c m ∈ needFa es gi exm := by
      have q : He.Fa.meth c m ∈ es.filterMap fun e => match e.d.at_.2 with | some m => some (He.Fa.meth e.d.at_.1 m) | none => none := List.mem_filterMap.mpr ⟨e, he, by rw [ea]⟩
      simp only [needFa, List.mem_append]
      simp only [q, true_or, or_true]
    exact ⟨He.cls_ok (fact _ m1), ma K (ga K c) m, fd, _, He.meth_ok (fact _ m2), hF, hb⟩
  · have q : He.Fa.noat c f ∈ gi.noat.map fun p => He.Fa.noat p.1 p.2 := List.mem_map.mpr ⟨(c, f), hf, rfl⟩
    exact He.noat_ok (fact _ (by simp only [needFa, List.mem_append]; simp only [q, true_or, or_true]))
  · obtain ⟨e1, e2, e3, e4⟩ := He.exc_ok (fact (.exc c) (by simp [needFa, hc]))
    exact ⟨He.glo_ok X G (fact _ (by simp [needFa, hc])), e1, e2, e3, e4⟩
  · unfold aboveOf at hb
    rw [Option.map_eq_some_iff] at hb
    obtain ⟨t, ht, rfl⟩ := hb
    have hm := List.mem_of_find?_eq_some ht
    have hp := List.find?_some ht
    simp only [decide_eq_true_eq] at hp
    obtain ⟨rfl, rfl⟩ := hp
    have q : He.Fa.exm t.1 t.2.1 t.2.2 ∈ exm.map fun t => He.Fa.exm t.1 t.2.1 t.2.2 := List.mem_map.mpr ⟨t, hm, rfl⟩
    exact He.exm_ok (fact _ (by simp only [needFa, List.mem_append]; simp only [q, true_or, or_true]))
theorem glo_all (po : ProgOk es gi) {h : Heap} (X : K.In h) (G : h.Ns mainGlobals mg) (SD : He.SaysD (needFa es gi exm) (es.map (·.d)) K) (hex : exB gi K = true) (n : Nat) : ∀ j, j < n → Glo P w K mg base (fnN (pgOf es exm) Wf j) gi (aboveOf exm) (2 * j) := by
  induction n with
  | zero => intro j hj; exact absurd hj (Nat.not_lt_zero j)
  | succ n ih =>
    intro j hj
    exact glo_core po X G SD hex j fun i hi => ih i (by omega)
/-- the law's def, what it says of a script -/
theorem law_ok (po : ProgOk es gi) {h : Heap} (X : K.In h) (G : h.Ns mainGlobals mg) (SD : He.SaysD (needFa es gi exm) (es.map (·.d)) K) (hex : exB gi K = true) (n : Nat) {e : Entry} (he : e ∈ es) (ha : e.d.at_ = (("law" : Str), none)) {x : Str} (hp : e.df.pars = [x])
    (pure : ∀ ns : List Int, ns.length ≤ 63 → ∃ h', (fnN (pgOf es exm) Wf n).run Str.empty "law" [.kl (ns.map .int)] [] = some (.ok (.bl true) h')) :
    ∃ (fd : FuncData) (sp : Sp), (∀ (s : Shared) (u : Value), BindsTo s fd ⟨[u], []⟩ [(x, u)]) ∧
        (∀ (H : Hp) (a : Addr) (ns : List Int), ns.length ≤ 63 → Only H → SqL K H a (ns.map V.int) → sp [.ref a] H (fun v _ => v = .bl true) fun _ _ _ => False) ∧
        ∀ base : Heap, K.In base → base.Ns mainGlobals mg → FnOk P w K mg base (L2.CX P w) (2 * n) (ga K "law") fd [x] sp := by
  obtain ⟨fd, FD⟩ := def_fd po SD he
  have hbt0 : ∀ (s : Shared) (us : List Value), us.length = e.df.pars.length → BindsTo s fd ⟨us, []⟩ (e.df.pars.zip us) := fun s us hl => FD.bindsA (po.bnd e he) s us hl
  rw [hp] at hbt0
  refine ⟨fd, spF K (fnN (pgOf es exm) Wf n) Str.empty "law", fun s u => hbt0 s [u] rfl, fun H a ns hl hO hS => ?_, fun base Xb Gb => ?_⟩
  · obtain ⟨h', hr⟩ := pure ns hl
    have sq : SqF K H a (ns.map V.int) := by
      rcases hS with (h1 | h1) | h1
      · rcases hO a with h2 | ⟨o, xs, h2⟩
        · rw [h1] at h2; cases h2
        · rw [h1] at h2; cases h2
      · exact .inl h1
      · exact .inr h1
    refine ⟨[], [], [.kl (ns.map .int)], _, ⟨rfl, fun n o a e => by simp at e, fun n m a o o' e => by simp at e⟩, .cons (.kl sq ?_) .nil, hr, ?_⟩
    · clear hr hl hS sq
      induction ns with
      | nil => exact .nil
      | cons i ns ih => exact .cons (.int i) ih
    · intro ι' H' v _ _ rv
      cases rv; rfl
  · have hF := def_ok (P := P) (w := w) (mg := mg) (base := base) (Wf := Wf) po n (fun j hj => glo_all po Xb Gb SD hex n j hj) he FD
    rw [ha, hp] at hF
    exact hF
end
end Ev

set_option Elab.async false
set_option linter.all false
set_option maxRecDepth 100000
set_option maxHeartbeats 0
/-! the program's defs in the evaluator's syntax (printed by pr.py) -/
namespace PK
open PySem Ev
def f_named : Df := ⟨["columns", "source", "name", "found", "index", "column"], ["columns", "source", "name"],
 (.cons (.asg (.tg (.nm 3)) (.lst .nil))
 (.cons (.fors (.tu [4, 5]) (.enum (.var 0))
 (.cons (.ifs (.and (.cmp .Eq (.idx (.var 5) (.int 1)) (.var 2)) (.or (.cmp .Is (.var 1) .non) (.cmp .Eq (.idx (.var 5) (.int 0)) (.var 1))))
 (.cons (.expr (.bm .append (.var 3) (.cons (.var 4) .nil)))
 .nil)
 .nil)
 .nil))
 (.cons (.ret (.var 3))
 .nil)))⟩
def f_locate : Df := ⟨["scope", "source", "name", "current", "found"], ["scope", "source", "name"],
 (.cons (.asg (.tg (.nm 3)) (.var 0))
 (.cons (.whil (.cmp .IsNot (.var 3) .non)
 (.cons (.asg (.tg (.nm 4)) (.call "named" (.cons (.fld (.var 3) "columns") (.cons (.var 1) (.cons (.var 2) .nil)))))
 (.cons (.ifs (.cmp .Gt (.blt .len (.cons (.var 4) .nil)) (.int 1))
 (.cons .bad
 .nil)
 .nil)
 (.cons (.ifs (.cmp .Eq (.blt .len (.cons (.var 4) .nil)) (.int 1))
 (.cons (.ret (.tup (.cons (.var 3) (.cons (.idx (.var 4) (.int 0)) .nil))))
 .nil)
 .nil)
 (.cons (.asg (.tg (.nm 3)) (.fld (.var 3) "outer"))
 .nil)))))
 (.cons (.ifs (.cmp .Is (.var 1) .non)
 (.cons .bad
 .nil)
 .nil)
 (.cons .bad
 .nil))))⟩
def f_own_index : Df := ⟨["columns", "node", "found"], ["columns", "node"],
 (.cons (.ifs (.cmp .NotEq (.idx (.var 1) (.int 0)) (.str "column"))
 (.cons (.ret .non)
 .nil)
 .nil)
 (.cons (.asg (.tg (.nm 2)) (.call "named" (.cons (.var 0) (.cons (.idx (.var 1) (.int 1)) (.cons (.idx (.var 1) (.int 2)) .nil)))))
 (.cons (.ifs (.cmp .Eq (.blt .len (.cons (.var 2) .nil)) (.int 1))
 (.cons (.ret (.idx (.var 2) (.int 0)))
 .nil)
 .nil)
 (.cons (.ret .non)
 .nil))))⟩
def f_operands : Df := ⟨["node", "form"], ["node"],
 (.cons (.asg (.tg (.nm 1)) (.idx (.var 0) (.int 0)))
 (.cons (.ifs (.cmp .In (.var 1) (.tup (.cons (.str "not") (.cons (.str "negate") (.cons (.str "is_null") (.cons (.str "in_query") .nil))))))
 (.cons (.ret (.lst (.cons (.idx (.var 0) (.int 1)) .nil)))
 .nil)
 .nil)
 (.cons (.ifs (.cmp .Eq (.var 1) (.str "binary"))
 (.cons (.ret (.lst (.cons (.idx (.var 0) (.int 2)) (.cons (.idx (.var 0) (.int 3)) .nil))))
 .nil)
 .nil)
 (.cons (.ifs (.cmp .Eq (.var 1) (.str "in_list"))
 (.cons (.ret .bad)
 .nil)
 .nil)
 (.cons (.ifs (.cmp .Eq (.var 1) (.str "case"))
 (.cons (.ret (.lst (.cons (.idx (.var 0) (.int 1)) (.cons (.idx (.var 0) (.int 2)) (.cons (.idx (.var 0) (.int 3)) .nil)))))
 .nil)
 .nil)
 (.cons (.ifs (.cmp .Eq (.var 1) (.str "aggregate"))
 (.cons (.ret (.lst (.cons (.idx (.var 0) (.int 2)) .nil)))
 .nil)
 .nil)
 (.cons (.ret (.lst .nil))
 .nil)))))))⟩
def f_has_aggregate : Df := ⟨["node", "part"], ["node"],
 (.cons (.ifs (.cmp .In (.idx (.var 0) (.int 0)) (.tup (.cons (.str "count_all") (.cons (.str "aggregate") .nil))))
 (.cons (.ret (.bl true))
 .nil)
 .nil)
 (.cons (.ret .bad)
 .nil))⟩
def f_is_grouping : Df := ⟨["select", "item"], ["select"],
 (.cons (.ifs (.or (.cmp .IsNot (.idx (.var 0) (.int 5)) .non) (.cmp .IsNot (.idx (.var 0) (.int 6)) .non))
 (.cons (.ret (.bl true))
 .nil)
 .nil)
 (.cons (.ret (.andv (.cmp .IsNot (.idx (.var 0) (.int 2)) .non) .bad))
 .nil))⟩
def f_item_name : Df := ⟨["item", "expression", "name"], ["item"],
 (.cons (.asg (.tg (.tu [1, 2])) (.var 0))
 (.cons (.ifs (.cmp .IsNot (.var 2) .non)
 (.cons (.ret (.var 2))
 .nil)
 .nil)
 (.cons (.ifs (.cmp .Eq (.idx (.var 1) (.int 0)) (.str "column"))
 (.cons (.ret (.idx (.var 1) (.int 2)))
 .nil)
 .nil)
 (.cons (.ret (.str ""))
 .nil))))⟩
def f_known_as : Df := ⟨["source"], ["source"],
 (.cons (.ifs (.cmp .Is (.idx (.var 0) (.int 2)) .non)
 (.cons (.ret (.idx (.var 0) (.int 1)))
 .nil)
 .nil)
 (.cons (.ret (.idx (.var 0) (.int 2)))
 .nil))⟩
def f_value_key : Df := ⟨["value"], ["value"],
 (.cons (.ifs (.cmp .Is (.var 0) .non)
 (.cons (.ret (.tup (.cons (.int 0) .nil)))
 .nil)
 .nil)
 (.cons (.ifs (.ex (.isin (.var 0) [.bool] true))
 (.cons (.ret (.tup (.cons (.int 1) (.cons (.blt .int (.cons (.var 0) .nil)) .nil))))
 .nil)
 .nil)
 (.cons (.ifs (.ex (.isin (.var 0) [.int] true))
 (.cons (.ret (.tup (.cons (.int 2) (.cons (.var 0) .nil))))
 .nil)
 .nil)
 (.cons (.ret (.tup (.cons (.int 3) (.cons (.var 0) .nil))))
 .nil))))⟩
def f_row_key : Df := ⟨["row", "parts", "value"], ["row"],
 (.cons (.asg (.tg (.nm 1)) (.lst .nil))
 (.cons (.fors (.nm 2) (.val (.var 0))
 (.cons (.expr (.bm .extend (.var 1) (.cons (.call "value_key" (.cons (.var 2) .nil)) .nil)))
 .nil))
 (.cons (.ret (.blt .tuple (.cons (.var 1) .nil)))
 .nil)))⟩
def f_same : Df := ⟨["first", "second"], ["first", "second"],
 (.cons (.ret (.cmp .Eq (.call "value_key" (.cons (.var 0) .nil)) (.call "value_key" (.cons (.var 1) .nil))))
 .nil)⟩
def f_bounded : Df := ⟨["number"], ["number"],
 (.cons (.ifs (.cmp .GtE (.blt .abs (.cons (.var 0) .nil)) (.gint "BOUND" 10000000000000000000000000000000000000000))
 (.cons (.ret .non)
 .nil)
 .nil)
 (.cons (.ret (.var 0))
 .nil))⟩
def f_quotient : Df := ⟨["first", "second", "result"], ["first", "second"],
 (.cons (.asg (.tg (.nm 2)) (.bin .FloorDiv (.blt .abs (.cons (.var 0) .nil)) (.blt .abs (.cons (.var 1) .nil))))
 (.cons (.ifs (.cmp .NotEq (.cmp .Lt (.var 0) (.int 0)) (.cmp .Lt (.var 1) (.int 0)))
 (.cons (.ret (.neg (.var 2)))
 .nil)
 .nil)
 (.cons (.ret (.var 2))
 .nil)))⟩
def f_arithmetic : Df := ⟨["operator", "first", "second", "joined"], ["operator", "first", "second"],
 (.cons (.ifs (.or (.cmp .Is (.var 1) .non) (.cmp .Is (.var 2) .non))
 (.cons (.ret .non)
 .nil)
 .nil)
 (.cons (.ifs (.cmp .Eq (.var 0) (.str "||"))
 (.cons (.asg (.tg (.nm 3)) (.bin .Add (.var 1) (.var 2)))
 (.cons (.ifs (.cmp .Gt (.blt .len (.cons (.var 3) .nil)) (.gint "LONGEST_TEXT" 2000))
 (.cons (.ret .non)
 .nil)
 .nil)
 (.cons (.ret (.var 3))
 .nil)))
 .nil)
 (.cons (.ifs (.cmp .Eq (.var 0) (.str "+"))
 (.cons (.ret (.call "bounded" (.cons (.bin .Add (.var 1) (.var 2)) .nil)))
 .nil)
 .nil)
 (.cons (.ifs (.cmp .Eq (.var 0) (.str "-"))
 (.cons (.ret (.call "bounded" (.cons (.bin .Sub (.var 1) (.var 2)) .nil)))
 .nil)
 .nil)
 (.cons (.ifs (.cmp .Eq (.var 0) (.str "*"))
 (.cons (.ret (.call "bounded" (.cons (.bin .Mult (.var 1) (.var 2)) .nil)))
 .nil)
 .nil)
 (.cons (.ifs (.cmp .Eq (.var 2) (.int 0))
 (.cons (.ret .non)
 .nil)
 .nil)
 (.cons (.ifs (.cmp .Eq (.var 0) (.str "/"))
 (.cons (.ret (.call "bounded" (.cons (.call "quotient" (.cons (.var 1) (.cons (.var 2) .nil))) .nil)))
 .nil)
 .nil)
 (.cons (.ret (.call "bounded" (.cons (.bin .Sub (.var 1) (.bin .Mult (.call "quotient" (.cons (.var 1) (.cons (.var 2) .nil))) (.var 2))) .nil)))
 .nil))))))))⟩
def f_compare : Df := ⟨["operator", "first", "second", "left", "right"], ["operator", "first", "second"],
 (.cons (.ifs (.or (.cmp .Is (.var 1) .non) (.cmp .Is (.var 2) .non))
 (.cons (.ret .non)
 .nil)
 .nil)
 (.cons (.asg (.tg (.nm 3)) (.call "value_key" (.cons (.var 1) .nil)))
 (.cons (.asg (.tg (.nm 4)) (.call "value_key" (.cons (.var 2) .nil)))
 (.cons (.ifs (.cmp .Eq (.var 0) (.str "="))
 (.cons (.ret (.cmp .Eq (.var 3) (.var 4)))
 .nil)
 .nil)
 (.cons (.ifs (.cmp .Eq (.var 0) (.str "<>"))
 (.cons (.ret (.cmp .NotEq (.var 3) (.var 4)))
 .nil)
 .nil)
 (.cons (.ifs (.cmp .Eq (.var 0) (.str "<"))
 (.cons (.ret (.cmp .Lt (.var 3) (.var 4)))
 .nil)
 .nil)
 (.cons (.ifs (.cmp .Eq (.var 0) (.str "<="))
 (.cons (.ret (.cmp .LtE (.var 3) (.var 4)))
 .nil)
 .nil)
 (.cons (.ifs (.cmp .Eq (.var 0) (.str ">"))
 (.cons (.ret (.cmp .Gt (.var 3) (.var 4)))
 .nil)
 .nil)
 (.cons (.ret (.cmp .GtE (.var 3) (.var 4)))
 .nil)))))))))⟩
def f_negation : Df := ⟨["value"], ["value"],
 (.cons (.ifs (.cmp .Is (.var 0) .non)
 (.cons (.ret .non)
 .nil)
 .nil)
 (.cons (.ret (.notv (.var 0)))
 .nil))⟩
def f_conjunction : Df := ⟨["first", "second"], ["first", "second"],
 (.cons (.ifs (.or (.cmp .Is (.var 0) (.bl false)) (.cmp .Is (.var 1) (.bl false)))
 (.cons (.ret (.bl false))
 .nil)
 .nil)
 (.cons (.ifs (.or (.cmp .Is (.var 0) .non) (.cmp .Is (.var 1) .non))
 (.cons (.ret .non)
 .nil)
 .nil)
 (.cons (.ret (.bl true))
 .nil)))⟩
def f_disjunction : Df := ⟨["first", "second"], ["first", "second"],
 (.cons (.ifs (.or (.cmp .Is (.var 0) (.bl true)) (.cmp .Is (.var 1) (.bl true)))
 (.cons (.ret (.bl true))
 .nil)
 .nil)
 (.cons (.ifs (.or (.cmp .Is (.var 0) .non) (.cmp .Is (.var 1) .non))
 (.cons (.ret .non)
 .nil)
 .nil)
 (.cons (.ret (.bl false))
 .nil)))⟩
def f_value_of : Df := ⟨["node", "frame", "world", "form", "found", "index"], ["node", "frame", "world"],
 (.cons (.asg (.tg (.nm 3)) (.idx (.var 0) (.int 0)))
 (.cons (.ifs (.cmp .Eq (.var 3) (.str "literal"))
 (.cons (.ret (.idx (.var 0) (.int 1)))
 .nil)
 .nil)
 (.cons (.ifs (.cmp .Eq (.var 3) (.str "parameter"))
 (.cons (.ret (.idx (.fld (.var 2) "parameters") (.bin .Sub (.idx (.var 0) (.int 1)) (.int 1))))
 .nil)
 .nil)
 (.cons (.ifs (.cmp .Eq (.var 3) (.str "column"))
 (.cons (.asg (.tg (.tu [4, 5])) (.call "locate" (.cons (.var 1) (.cons (.idx (.var 0) (.int 1)) (.cons (.idx (.var 0) (.int 2)) .nil)))))
 (.cons (.ret (.idx (.fld (.var 4) "row") (.var 5)))
 .nil))
 .nil)
 (.cons (.ifs (.cmp .Eq (.var 3) (.str "binary"))
 (.cons (.ret (.call "combined" (.cons (.idx (.var 0) (.int 1)) (.cons (.call "value_of" (.cons (.idx (.var 0) (.int 2)) (.cons (.var 1) (.cons (.var 2) .nil)))) (.cons (.call "value_of" (.cons (.idx (.var 0) (.int 3)) (.cons (.var 1) (.cons (.var 2) .nil)))) .nil)))))
 .nil)
 .nil)
 (.cons (.ifs (.cmp .Eq (.var 3) (.str "not"))
 (.cons (.ret (.call "negation" (.cons (.call "value_of" (.cons (.idx (.var 0) (.int 1)) (.cons (.var 1) (.cons (.var 2) .nil)))) .nil)))
 .nil)
 .nil)
 (.cons (.ifs (.cmp .Eq (.var 3) (.str "negate"))
 (.cons (.ret (.call "arithmetic" (.cons (.str "-") (.cons (.int 0) (.cons (.call "value_of" (.cons (.idx (.var 0) (.int 1)) (.cons (.var 1) (.cons (.var 2) .nil)))) .nil)))))
 .nil)
 .nil)
 (.cons (.ifs (.cmp .Eq (.var 3) (.str "is_null"))
 (.cons (.ret (.cmp .NotEq (.cmp .Is (.call "value_of" (.cons (.idx (.var 0) (.int 1)) (.cons (.var 1) (.cons (.var 2) .nil)))) .non) (.idx (.var 0) (.int 2))))
 .nil)
 .nil)
 (.cons (.ifs (.cmp .In (.var 3) (.tup (.cons (.str "in_list") (.cons (.str "in_query") .nil))))
 (.cons (.ret (.call "membership" (.cons (.var 0) (.cons (.var 1) (.cons (.var 2) .nil)))))
 .nil)
 .nil)
 (.cons (.ifs (.cmp .Eq (.var 3) (.str "exists"))
 (.cons (.ret (.cmp .Gt (.blt .len (.cons (.idx (.call "result_of" (.cons (.idx (.var 0) (.int 1)) (.cons (.var 1) (.cons (.var 2) .nil)))) (.int 1)) .nil)) (.int 0)))
 .nil)
 .nil)
 (.cons (.ifs (.cmp .Eq (.var 3) (.str "scalar"))
 (.cons (.ret (.idx (.idx (.idx (.call "result_of" (.cons (.idx (.var 0) (.int 1)) (.cons (.var 1) (.cons (.var 2) .nil)))) (.int 1)) (.int 0)) (.int 0)))
 .nil)
 .nil)
 (.cons (.ifs (.cmp .Eq (.var 3) (.str "case"))
 (.cons (.ifs (.cmp .Is (.call "value_of" (.cons (.idx (.var 0) (.int 1)) (.cons (.var 1) (.cons (.var 2) .nil)))) (.bl true))
 (.cons (.ret (.call "value_of" (.cons (.idx (.var 0) (.int 2)) (.cons (.var 1) (.cons (.var 2) .nil)))))
 .nil)
 .nil)
 (.cons (.ret (.call "value_of" (.cons (.idx (.var 0) (.int 3)) (.cons (.var 1) (.cons (.var 2) .nil)))))
 .nil))
 .nil)
 (.cons (.ret (.call "aggregate" (.cons (.var 0) (.cons (.var 1) (.cons (.var 2) .nil)))))
 .nil)))))))))))))⟩
def f_combined : Df := ⟨["operator", "first", "second"], ["operator", "first", "second"],
 (.cons (.ifs (.cmp .Eq (.var 0) (.str "and"))
 (.cons (.ret (.call "conjunction" (.cons (.var 1) (.cons (.var 2) .nil))))
 .nil)
 .nil)
 (.cons (.ifs (.cmp .Eq (.var 0) (.str "or"))
 (.cons (.ret (.call "disjunction" (.cons (.var 1) (.cons (.var 2) .nil))))
 .nil)
 .nil)
 (.cons (.ifs (.cmp .In (.var 0) (.gtup "COMPARISONS" [(.str "="), (.str "<>"), (.str "<"), (.str "<="), (.str ">"), (.str ">=")]))
 (.cons (.ret (.call "compare" (.cons (.var 0) (.cons (.var 1) (.cons (.var 2) .nil)))))
 .nil)
 .nil)
 (.cons (.ret (.call "arithmetic" (.cons (.var 0) (.cons (.var 1) (.cons (.var 2) .nil)))))
 .nil))))⟩
def f_membership : Df := ⟨["node", "frame", "world", "value", "found", "item", "row"], ["node", "frame", "world"],
 (.cons (.asg (.tg (.nm 3)) (.call "value_of" (.cons (.idx (.var 0) (.int 1)) (.cons (.var 1) (.cons (.var 2) .nil)))))
 (.cons (.ifs (.cmp .Eq (.idx (.var 0) (.int 0)) (.str "in_list"))
 (.cons (.asg (.tg (.nm 4)) (.bl false))
 (.cons (.fors (.nm 5) (.val (.idx (.var 0) (.int 2)))
 (.cons (.asg (.tg (.nm 4)) (.call "disjunction" (.cons (.var 4) (.cons (.call "compare" (.cons (.str "=") (.cons (.var 3) (.cons (.call "value_of" (.cons (.var 5) (.cons (.var 1) (.cons (.var 2) .nil)))) .nil)))) .nil))))
 .nil))
 .nil))
 (.cons (.asg (.tg (.nm 4)) (.call "is_among" (.cons (.var 3) (.cons (.comp true (.nm 6) (.val (.idx (.call "result_of" (.cons (.idx (.var 0) (.int 2)) (.cons (.var 1) (.cons (.var 2) .nil)))) (.int 1))) .yes (.idx (.var 6) (.int 0))) .nil))))
 .nil))
 (.cons (.ifs (.ex (.idx (.var 0) (.int 3)))
 (.cons (.ret (.call "negation" (.cons (.var 4) .nil)))
 .nil)
 .nil)
 (.cons (.ret (.var 4))
 .nil))))⟩
def f_is_among : Df := ⟨["value", "column", "other"], ["value", "column"],
 (.cons (.ifs (.cmp .Eq (.blt .len (.cons (.var 1) .nil)) (.int 0))
 (.cons (.ret (.bl false))
 .nil)
 .nil)
 (.cons (.ifs (.cmp .Is (.var 0) .non)
 (.cons (.ret .non)
 .nil)
 .nil)
 (.cons (.ifs (.ex .bad)
 (.cons (.ret (.bl true))
 .nil)
 .nil)
 (.cons (.ifs (.ex .bad)
 (.cons (.ret .non)
 .nil)
 .nil)
 (.cons (.ret (.bl false))
 .nil)))))⟩
def f_aggregate : Df := ⟨["node", "frame", "world", "values", "row", "value"], ["node", "frame", "world"],
 (.cons (.ifs (.cmp .Eq (.idx (.var 0) (.int 0)) (.str "count_all"))
 (.cons (.ret (.blt .len (.cons (.fld (.var 1) "members") .nil)))
 .nil)
 .nil)
 (.cons (.asg (.tg (.nm 3)) (.lst .nil))
 (.cons (.fors (.nm 4) (.val (.fld (.var 1) "members"))
 (.cons (.asg (.tg (.nm 5)) (.call "value_of" (.cons (.idx (.var 0) (.int 2)) (.cons (.make "Frame" (.cons (.fld (.var 1) "columns") (.cons (.var 4) (.cons .non (.cons (.fld (.var 1) "outer") .nil))))) (.cons (.var 2) .nil)))))
 (.cons (.ifs (.cmp .IsNot (.var 5) .non)
 (.cons (.expr (.bm .append (.var 3) (.cons (.var 5) .nil)))
 .nil)
 .nil)
 .nil)))
 (.cons (.ifs (.cmp .Eq (.idx (.var 0) (.int 1)) (.str "count"))
 (.cons (.ret (.blt .len (.cons (.var 3) .nil)))
 .nil)
 .nil)
 (.cons (.ifs (.cmp .Eq (.blt .len (.cons (.var 3) .nil)) (.int 0))
 (.cons (.ret .non)
 .nil)
 .nil)
 (.cons (.ifs (.cmp .Eq (.idx (.var 0) (.int 1)) (.str "sum"))
 (.cons (.ret (.call "bounded" (.cons (.blt .sum (.cons (.var 3) .nil)) .nil)))
 .nil)
 .nil)
 (.cons (.asg (.tg (.nm 3)) .bad)
 (.cons (.ifs (.cmp .Eq (.idx (.var 0) (.int 1)) (.str "min"))
 (.cons (.ret (.idx (.var 3) (.int 0)))
 .nil)
 .nil)
 (.cons (.ret (.idx (.var 3) (.neg (.int 1))))
 .nil)))))))))⟩
def f_kept_frames : Df := ⟨["condition", "frames", "world", "frame"], ["condition", "frames", "world"],
 (.cons (.ifs (.cmp .Is (.var 0) .non)
 (.cons (.ret (.var 1))
 .nil)
 .nil)
 (.cons (.ret (.comp true (.nm 3) (.val (.var 1)) (.cmp .Is (.call "value_of" (.cons (.var 0) (.cons (.var 3) (.cons (.var 2) .nil)))) (.bl true)) (.var 3)))
 .nil))⟩
def f_without_repeats : Df := ⟨["rows", "found", "row"], ["rows"],
 (.cons (.asg (.tg (.nm 1)) .dnewT)
 (.cons (.fors (.nm 2) (.val (.var 0))
 (.cons (.expr (.bm .setd (.var 1) (.cons (.call "row_key" (.cons (.var 2) .nil)) (.cons (.var 2) .nil))))
 .nil))
 (.cons (.ret (.lvals 1))
 .nil)))⟩
def f_table_result : Df := ⟨["source", "world", "table", "name"], ["source", "world"],
 (.cons (.asg (.tg (.nm 2)) (.idx (.fld (.var 1) "sources") (.idx (.var 0) (.int 1))))
 (.cons (.ret (.tup (.cons (.comp true (.nm 3) (.val (.fld (.var 2) "columns")) .yes (.tup (.cons (.call "known_as" (.cons (.var 0) .nil)) (.cons (.var 3) .nil)))) (.cons (.blt .list (.cons (.fld (.var 2) "rows") .nil)) .nil))))
 .nil))⟩
def f_source_result : Df := ⟨["source", "outer", "world", "names", "rows", "left", "left_rows", "right", "right_rows", "columns", "joined", "row", "frames", "matches", "name", "other", "frame", "_"], ["source", "outer", "world"],
 (.cons (.ifs (.cmp .Eq (.idx (.var 0) (.int 0)) (.str "table"))
 (.cons (.ret (.call "table_result" (.cons (.var 0) (.cons (.var 2) .nil))))
 .nil)
 .nil)
 (.cons (.ifs (.cmp .Eq (.idx (.var 0) (.int 0)) (.str "subquery"))
 (.cons (.asg (.tg (.tu [3, 4])) (.call "result_of" (.cons (.idx (.var 0) (.int 1)) (.cons (.var 1) (.cons (.var 2) .nil)))))
 (.cons (.ret (.tup (.cons (.comp true (.nm 14) (.val (.var 3)) .yes (.tup (.cons (.idx (.var 0) (.int 2)) (.cons (.var 14) .nil)))) (.cons (.var 4) .nil))))
 .nil))
 .nil)
 (.cons (.asg (.tg (.tu [5, 6])) (.call "source_result" (.cons (.idx (.var 0) (.int 1)) (.cons (.var 1) (.cons (.var 2) .nil)))))
 (.cons (.asg (.tg (.tu [7, 8])) (.call "source_result" (.cons (.idx (.var 0) (.int 2)) (.cons (.var 1) (.cons (.var 2) .nil)))))
 (.cons (.asg (.tg (.nm 9)) (.bin .Add (.var 5) (.var 7)))
 (.cons (.asg (.tg (.nm 10)) (.lst .nil))
 (.cons (.fors (.nm 11) (.val (.var 6))
 (.cons (.asg (.tg (.nm 12)) (.comp true (.nm 15) (.val (.var 8)) .yes (.make "Frame" (.cons (.var 9) (.cons (.bin .Add (.var 11) (.var 15)) (.cons .non (.cons (.var 1) .nil)))))))
 (.cons (.asg (.tg (.nm 13)) (.comp true (.nm 16) (.val (.call "kept_frames" (.cons (.idx (.var 0) (.int 3)) (.cons (.var 12) (.cons (.var 2) .nil))))) .yes (.fld (.var 16) "row")))
 (.cons (.ifs (.and (.ex (.idx (.var 0) (.int 4))) (.cmp .Eq (.blt .len (.cons (.var 13) .nil)) (.int 0)))
 (.cons (.asg (.tg (.nm 13)) (.lst (.cons (.bin .Add (.var 11) (.blt .tuple (.cons (.comp true (.nm 17) (.val (.var 7)) .yes .non) .nil))) .nil)))
 .nil)
 .nil)
 (.cons (.expr (.bm .extend (.var 10) (.cons (.var 13) .nil)))
 .nil)))))
 (.cons (.ret (.tup (.cons (.var 9) (.cons (.var 10) .nil))))
 .nil))))))))⟩
def f_grouped_frames : Df := ⟨["select", "columns", "rows", "outer", "first", "indexes", "groups", "row", "node", "index", "members"], ["select", "columns", "rows", "outer"],
 (.cons (.ifs (.cmp .Is (.idx (.var 0) (.int 5)) .non)
 (.cons (.asg (.tg (.nm 4)) (.tup .nil))
 (.cons (.ifs (.cmp .Gt (.blt .len (.cons (.var 2) .nil)) (.int 0))
 (.cons (.asg (.tg (.nm 4)) (.idx (.var 2) (.int 0)))
 .nil)
 .nil)
 (.cons (.ret (.lst (.cons (.make "Frame" (.cons (.var 1) (.cons (.var 4) (.cons (.var 2) (.cons (.var 3) .nil))))) .nil)))
 .nil)))
 .nil)
 (.cons (.asg (.tg (.nm 5)) (.comp true (.nm 8) (.val (.idx (.var 0) (.int 5))) .yes (.call "own_index" (.cons (.var 1) (.cons (.var 8) .nil)))))
 (.cons (.asg (.tg (.nm 6)) .dnewT)
 (.cons (.fors (.nm 7) (.val (.var 2))
 (.cons (.expr (.bm .append (.bm .setd (.var 6) (.cons (.call "row_key" (.cons (.comp true (.nm 9) (.val (.var 5)) .yes (.idx (.var 7) (.var 9))) .nil)) (.cons (.lst .nil) .nil))) (.cons (.var 7) .nil)))
 .nil))
 (.cons (.ret (.comp true (.nm 10) (.val .bad) .yes (.make "Frame" (.cons (.var 1) (.cons (.idx (.var 10) (.int 0)) (.cons (.var 10) (.cons (.var 3) .nil)))))))
 .nil)))))⟩
def f_select_result : Df := ⟨["select", "outer", "world", "columns", "rows", "frames", "names", "made", "row", "frame", "column", "item"], ["select", "outer", "world"],
 (.cons (.asg (.tg (.nm 3)) (.lst .nil))
 (.cons (.asg (.tg (.nm 4)) (.lst (.cons (.tup .nil) .nil)))
 (.cons (.ifs (.cmp .IsNot (.idx (.var 0) (.int 3)) .non)
 (.cons (.asg (.tg (.tu [3, 4])) (.call "source_result" (.cons (.idx (.var 0) (.int 3)) (.cons (.var 1) (.cons (.var 2) .nil)))))
 .nil)
 .nil)
 (.cons (.asg (.tg (.nm 5)) (.call "kept_frames" (.cons (.idx (.var 0) (.int 4)) (.cons (.comp true (.nm 8) (.val (.var 4)) .yes (.make "Frame" (.cons (.var 3) (.cons (.var 8) (.cons .non (.cons (.var 1) .nil)))))) (.cons (.var 2) .nil)))))
 (.cons (.ifs (.ex (.call "is_grouping" (.cons (.var 0) .nil)))
 (.cons (.asg (.tg (.nm 5)) (.call "grouped_frames" (.cons (.var 0) (.cons (.var 3) (.cons (.comp true (.nm 9) (.val (.var 5)) .yes (.fld (.var 9) "row")) (.cons (.var 1) .nil))))))
 .nil)
 .nil)
 (.cons (.asg (.tg (.nm 5)) (.call "kept_frames" (.cons (.idx (.var 0) (.int 6)) (.cons (.var 5) (.cons (.var 2) .nil)))))
 (.cons (.ifs (.cmp .Is (.idx (.var 0) (.int 2)) .non)
 (.cons (.asg (.tg (.nm 6)) (.comp true (.nm 10) (.val (.var 3)) .yes (.idx (.var 10) (.int 1))))
 (.cons (.asg (.tg (.nm 7)) (.comp true (.nm 9) (.val (.var 5)) .yes (.fld (.var 9) "row")))
 .nil))
 (.cons (.asg (.tg (.nm 6)) (.comp true (.nm 11) (.val (.idx (.var 0) (.int 2))) .yes (.call "item_name" (.cons (.var 11) .nil))))
 (.cons (.asg (.tg (.nm 7)) (.comp true (.nm 9) (.val (.var 5)) .yes (.call "made_row" (.cons (.idx (.var 0) (.int 2)) (.cons (.var 9) (.cons (.var 2) .nil))))))
 .nil)))
 (.cons (.ifs (.ex (.idx (.var 0) (.int 1)))
 (.cons (.asg (.tg (.nm 7)) (.call "without_repeats" (.cons (.var 7) .nil)))
 .nil)
 .nil)
 (.cons (.ret (.tup (.cons (.var 6) (.cons (.var 7) .nil))))
 .nil)))))))))⟩
def f_made_row : Df := ⟨["items", "frame", "world", "item"], ["items", "frame", "world"],
 (.cons (.ret (.blt .tuple (.cons (.comp true (.nm 3) (.val (.var 0)) .yes (.call "value_of" (.cons (.idx (.var 3) (.int 0)) (.cons (.var 1) (.cons (.var 2) .nil))))) .nil)))
 .nil)⟩
def f_result_of : Df := ⟨["query", "outer", "world", "names", "first", "second", "there", "wanted", "row"], ["query", "outer", "world"],
 (.cons (.ifs (.cmp .Eq (.idx (.var 0) (.int 0)) (.str "select"))
 (.cons (.ret (.call "select_result" (.cons (.var 0) (.cons (.var 1) (.cons (.var 2) .nil)))))
 .nil)
 .nil)
 (.cons (.asg (.tg (.tu [3, 4])) (.call "result_of" (.cons (.idx (.var 0) (.int 2)) (.cons (.var 1) (.cons (.var 2) .nil)))))
 (.cons (.asg (.tg (.nm 5)) (.idx (.call "result_of" (.cons (.idx (.var 0) (.int 3)) (.cons (.var 1) (.cons (.var 2) .nil)))) (.int 1)))
 (.cons (.ifs (.cmp .Eq (.idx (.var 0) (.int 1)) (.str "union all"))
 (.cons (.ret (.tup (.cons (.var 3) (.cons (.bin .Add (.var 4) (.var 5)) .nil))))
 .nil)
 .nil)
 (.cons (.ifs (.cmp .Eq (.idx (.var 0) (.int 1)) (.str "union"))
 (.cons (.ret (.tup (.cons (.var 3) (.cons (.call "without_repeats" (.cons (.bin .Add (.var 4) (.var 5)) .nil)) .nil))))
 .nil)
 .nil)
 (.cons .bad
 (.cons (.asg (.tg (.nm 7)) (.cmp .Eq (.idx (.var 0) (.int 1)) (.str "intersect")))
 (.cons (.ret (.tup (.cons (.var 3) (.cons (.call "without_repeats" (.cons (.comp true (.nm 8) (.val (.var 4)) (.cmp .Eq (.cmp .In (.call "row_key" (.cons (.var 8) .nil)) (.var 6)) (.var 7)) (.var 8)) .nil)) .nil))))
 .nil))))))))⟩
def f_below : Df := ⟨["plan", "part"], ["plan"],
 (.cons (.ret (.comp true (.nm 1) (.val (.slc (.var 0) (.some (.int 1)) .none)) (.and (.ex (.isin (.var 1) [.tuple] true)) (.ex (.call "is_plan" (.cons (.var 1) .nil)))) (.var 1)))
 .nil)⟩
def f_is_plan : Df := ⟨["part"], ["part"],
 (.cons (.ret (.andv (.cmp .Gt (.blt .len (.cons (.var 0) .nil)) (.int 0)) (.cmp .In (.idx (.var 0) (.int 0)) (.gtup "WORDS" [(.str "scan"), (.str "one"), (.str "cross"), (.str "join"), (.str "match"), (.str "outer"), (.str "keep"), (.str "pick"), (.str "distinct"), (.str "group"), (.str "all"), (.str "except"), (.str "intersect")]))))
 .nil)⟩
def f_width : Df := ⟨["plan", "sources", "part"], ["plan", "sources"],
 (.cons (.ifs (.cmp .Eq (.idx (.var 0) (.int 0)) (.str "scan"))
 (.cons (.ret (.blt .len (.cons (.fld (.idx (.var 1) (.idx (.var 0) (.int 1))) "columns") .nil)))
 .nil)
 .nil)
 (.cons (.ifs (.cmp .Eq (.idx (.var 0) (.int 0)) (.str "one"))
 (.cons (.ret (.int 0))
 .nil)
 .nil)
 (.cons (.ifs (.cmp .Eq (.idx (.var 0) (.int 0)) (.str "pick"))
 (.cons (.ret (.blt .len (.cons (.idx (.var 0) (.int 1)) .nil)))
 .nil)
 .nil)
 (.cons (.ifs (.cmp .Eq (.idx (.var 0) (.int 0)) (.str "group"))
 (.cons (.ret (.blt .len (.cons (.idx (.var 0) (.int 2)) .nil)))
 .nil)
 .nil)
 (.cons (.ifs (.cmp .In (.idx (.var 0) (.int 0)) (.tup (.cons (.str "cross") (.cons (.str "join") (.cons (.str "match") (.cons (.str "outer") .nil))))))
 (.cons (.ret (.blt .sum (.cons (.comp true (.nm 2) (.val (.call "below" (.cons (.var 0) .nil))) .yes (.call "width" (.cons (.var 2) (.cons (.var 1) .nil)))) .nil)))
 .nil)
 .nil)
 (.cons (.ret (.call "width" (.cons (.idx (.call "below" (.cons (.var 0) .nil)) (.int 0)) (.cons (.var 1) .nil))))
 .nil))))))⟩
def f_run : Df := ⟨["plan", "sources", "parameters"], ["plan", "sources", "parameters"],
 (.cons (.ret (.meth (.make "Runner" (.cons (.var 1) (.cons (.var 2) .nil))) "rows" (.cons (.var 0) .nil)))
 .nil)⟩
def fUlaw_next : Df := ⟨["state", "limit", "cell", "value"], ["state", "limit"],
 (.cons (.ifs (.and (.cmp .Eq (.idx (.var 0) (.int 2)) (.int 0)) (.cmp .Lt (.idx (.var 0) (.int 1)) (.blt .len (.cons (.idx (.var 0) (.int 0)) .nil))))
 (.cons (.asg (.tg (.nm 2)) (.idx (.idx (.var 0) (.int 0)) (.idx (.var 0) (.int 1))))
 (.cons (.augS (.var 0) (.int 1) .Add (.int 1))
 (.cons (.ifs (.cmp .GtE (.var 2) (.bin .Pow (.int 10) (.int 18)))
 (.cons (.asg (.sub (.var 0) (.int 2)) (.var 2))
 .nil)
 (.cons (.asg (.sub (.var 0) (.int 3)) (.bin .Mod (.blt .int (.cons (.bin .Add (.bin .Add (.bin .Mult (.idx (.var 0) (.int 3)) (.int 48271)) (.bin .Mod (.blt .int (.cons (.var 2) .nil)) (.int 2147483647))) (.int 7)) .nil)) (.int 2147483647)))
 .nil))
 .nil)))
 .nil)
 (.cons (.ifs (.cmp .Gt (.idx (.var 0) (.int 2)) (.int 0))
 (.cons (.asg (.tg (.nm 3)) (.bin .Mod (.blt .int (.cons (.idx (.var 0) (.int 2)) .nil)) (.var 1)))
 (.cons (.asg (.sub (.var 0) (.int 2)) (.bin .FloorDiv (.idx (.var 0) (.int 2)) (.var 1)))
 (.cons (.ret (.var 3))
 .nil)))
 .nil)
 (.cons (.asg (.sub (.var 0) (.int 3)) (.bin .Mod (.blt .int (.cons (.bin .Add (.bin .Mult (.idx (.var 0) (.int 3)) (.int 69621)) (.int 12345)) .nil)) (.int 2147483647)))
 (.cons (.ret (.bin .Mod (.blt .int (.cons (.bin .FloorDiv (.idx (.var 0) (.int 3)) (.int 7)) .nil)) (.var 1)))
 .nil))))⟩
def fUlaw_same : Df := ⟨["actual", "expected", "k"], ["actual", "expected"],
 (.cons (.ifs (.ex (.isin (.var 1) [.tuple, .list] false))
 (.cons (.ifs (.or (.not (.ex (.isin (.var 0) [.tuple, .list] false))) (.or (.cmp .NotEq (.isin (.var 0) [.tuple] true) (.isin (.var 1) [.tuple] true)) (.cmp .NotEq (.blt .len (.cons (.var 0) .nil)) (.blt .len (.cons (.var 1) .nil)))))
 (.cons (.ret (.bl false))
 .nil)
 .nil)
 (.cons (.ret (.cmp .Eq (.comp true (.nm 2) (.rng1 (.blt .len (.cons (.var 1) .nil))) (.not (.ex (.call "_law_same" (.cons (.idx (.var 0) (.var 2)) (.cons (.idx (.var 1) (.var 2)) .nil))))) (.var 2)) (.lst .nil)))
 .nil))
 .nil)
 (.cons (.ifs (.or (.cmp .Is (.var 1) .non) (.ex (.isin (.var 1) [.bool] true)))
 (.cons (.ret (.andv (.cmp .Eq (.isin (.var 0) [.bool] true) (.isin (.var 1) [.bool] true)) (.cmp .Eq (.var 0) (.var 1))))
 .nil)
 .nil)
 (.cons (.ifs (.or (.ex (.isin (.var 0) [.bool] true)) (.cmp .NotEq (.isin (.var 0) [.str] true) (.isin (.var 1) [.str] true)))
 (.cons (.ret (.bl false))
 .nil)
 .nil)
 (.cons (.ret (.andv (.isin (.var 0) [.str, .int] false) (.cmp .Eq (.var 0) (.var 1))))
 .nil))))⟩
def fUlaw_source : Df := ⟨["name", "count", "rows", "k"], ["name", "count"],
 (.cons (.asg (.tg (.nm 2)) (.comp true (.nm 3) (.rng1 (.var 1)) .yes (.tup (.cons (.bin .Add (.bin .Add (.str "0.") (.blt .str (.cons (.bin .Add (.var 3) (.int 1)) .nil))) (.str ".0")) (.cons (.bin .Mod (.blt .int (.cons (.var 3) .nil)) (.int 2)) .nil)))))
 (.cons (.ret (.make "Source" (.cons (.var 0) (.cons (.lst (.cons (.str "id") (.cons (.str "a") .nil))) (.cons (.lst (.cons (.str "text") (.cons (.str "integer") .nil))) (.cons (.var 2) .nil))))))
 .nil))⟩
def fUlaw_counts : Df := ⟨["state", "pairs"], ["state"],
 (.cons (.asg (.tg (.nm 1)) (.lst (.cons (.tup (.cons (.int 40) (.cons (.int 50) .nil))) (.cons (.tup (.cons (.int 50) (.cons (.int 40) .nil))) (.cons (.tup (.cons (.int 20) (.cons (.int 100) .nil))) (.cons (.tup (.cons (.int 1) (.cons (.int 2000) .nil))) (.cons (.tup (.cons (.int 2000) (.cons (.int 1) .nil))) (.cons (.tup (.cons (.int 23) (.cons (.int 87) .nil))) (.cons (.tup (.cons (.int 3) (.cons (.int 667) .nil))) (.cons (.tup (.cons (.int 29) (.cons (.int 69) .nil))) (.cons (.tup (.cons (.int 45) (.cons (.int 45) .nil))) (.cons (.tup (.cons (.int 44) (.cons (.int 45) .nil))) (.cons (.tup (.cons (.int 0) (.cons (.int 2000) .nil))) (.cons (.tup (.cons (.int 7) (.cons (.int 9) .nil))) (.cons (.tup (.cons (.int 80) (.cons (.int 80) .nil))) .nil)))))))))))))))
 (.cons (.ret (.idx (.var 1) (.call "_law_next" (.cons (.var 0) (.cons (.blt .len (.cons (.var 1) .nil)) .nil)))))
 .nil))⟩
def fUlaw_column : Df := ⟨["place"], ["place"],
 (.cons (.ret (.tup (.cons (.str "column") (.cons .non (.cons (.blt .str (.cons (.var 0) .nil)) .nil)))))
 .nil)⟩
def fUlaw_drawn : Df := ⟨["state", "first", "second", "pick", "left", "right", "both", "alike"], ["state", "first", "second", "pick"],
 (.cons (.asg (.tg (.tu [4, 5])) (.tup (.cons (.tup (.cons (.str "scan") (.cons (.str "s0_a") .nil))) (.cons (.tup (.cons (.str "scan") (.cons (.str "s0_b") .nil))) .nil))))
 (.cons (.asg (.tg (.nm 6)) (.bin .Mult (.var 1) (.var 2)))
 (.cons (.asg (.tg (.nm 7)) (.bin .Add (.bin .Mult (.bin .FloorDiv (.bin .Add (.var 1) (.int 1)) (.int 2)) (.bin .FloorDiv (.bin .Add (.var 2) (.int 1)) (.int 2))) (.bin .Mult (.bin .FloorDiv (.var 1) (.int 2)) (.bin .FloorDiv (.var 2) (.int 2)))))
 (.cons (.ifs (.cmp .Eq (.var 3) (.int 0))
 (.cons (.ret (.tup (.cons (.tup (.cons (.str "cross") (.cons (.var 4) (.cons (.var 5) .nil)))) (.cons (.var 6) .nil))))
 .nil)
 .nil)
 (.cons (.ifs (.cmp .Eq (.var 3) (.int 1))
 (.cons (.ret (.tup (.cons (.tup (.cons (.str "keep") (.cons (.tup (.cons (.str "literal") (.cons (.bl false) .nil))) (.cons (.tup (.cons (.str "cross") (.cons (.var 4) (.cons (.var 5) .nil)))) .nil)))) (.cons (.var 6) .nil))))
 .nil)
 .nil)
 (.cons (.ifs (.cmp .Eq (.var 3) (.int 2))
 (.cons (.ret (.tup (.cons (.tup (.cons (.str "join") (.cons (.tup (.cons (.str "literal") (.cons (.idx (.lst (.cons (.bl true) (.cons (.bl false) (.cons .non .nil)))) (.call "_law_next" (.cons (.var 0) (.cons (.int 3) .nil)))) .nil))) (.cons (.var 4) (.cons (.var 5) .nil))))) (.cons (.var 6) .nil))))
 .nil)
 .nil)
 (.cons (.ifs (.cmp .Eq (.var 3) (.int 3))
 (.cons (.ret (.tup (.cons (.tup (.cons (.str "join") (.cons (.tup (.cons (.str "binary") (.cons (.str "=") (.cons (.call "_law_column" (.cons (.int 1) .nil)) (.cons (.call "_law_column" (.cons (.int 3) .nil)) .nil))))) (.cons (.var 4) (.cons (.var 5) .nil))))) (.cons (.var 7) .nil))))
 .nil)
 .nil)
 (.cons (.ifs (.cmp .Eq (.var 3) (.int 4))
 (.cons (.ret (.tup (.cons (.tup (.cons (.str "match") (.cons (.tup (.cons (.tup (.cons (.int 1) (.cons (.int 3) .nil))) .nil)) (.cons (.var 4) (.cons (.var 5) .nil))))) (.cons (.var 7) .nil))))
 .nil)
 .nil)
 (.cons (.ifs (.cmp .Eq (.var 3) (.int 5))
 (.cons (.ret (.tup (.cons (.tup (.cons (.str "outer") (.cons (.tup (.cons (.str "binary") (.cons (.str "=") (.cons (.call "_law_column" (.cons (.int 1) .nil)) (.cons (.call "_law_column" (.cons (.int 3) .nil)) .nil))))) (.cons (.var 4) (.cons (.var 5) .nil))))) (.cons .non .nil))))
 .nil)
 .nil)
 (.cons (.ifs (.cmp .Eq (.var 3) (.int 6))
 (.cons (.ret (.tup (.cons (.tup (.cons (.str "all") (.cons (.var 4) (.cons (.var 5) .nil)))) (.cons (.bin .Add (.var 1) (.var 2)) .nil))))
 .nil)
 .nil)
 (.cons (.ifs (.cmp .Eq (.var 3) (.int 7))
 (.cons (.ret (.tup (.cons (.tup (.cons (.str "distinct") (.cons (.tup (.cons (.str "pick") (.cons (.tup (.cons (.call "_law_column" (.cons (.int 1) .nil)) .nil)) (.cons (.tup (.cons (.str "cross") (.cons (.var 4) (.cons (.var 5) .nil)))) .nil)))) .nil))) (.cons (.var 6) .nil))))
 .nil)
 .nil)
 (.cons (.ret (.tup (.cons (.tup (.cons (.str "group") (.cons (.tup (.cons (.int 1) .nil)) (.cons (.tup (.cons (.call "_law_column" (.cons (.int 1) .nil)) (.cons (.tup (.cons (.str "count_all") .nil)) .nil))) (.cons .non (.cons (.tup (.cons (.str "all") (.cons (.tup (.cons (.str "all") (.cons (.var 4) (.cons (.var 5) .nil)))) (.cons (.var 4) .nil)))) .nil)))))) (.cons (.bin .Add (.bin .Mult (.int 2) (.var 1)) (.var 2)) .nil))))
 .nil))))))))))))⟩
def fUlaw_made : Df := ⟨["plan", "one", "two", "rows", "found", "pairs", "row", "value", "other"], ["plan", "one", "two"],
 (.cons (.ifs (.cmp .Eq (.idx (.var 0) (.int 0)) (.str "scan"))
 (.cons (.ret (.ite (.cmp .Eq (.idx (.var 0) (.int 1)) (.str "s0_a")) (.var 1) (.var 2)))
 .nil)
 .nil)
 (.cons (.ifs (.cmp .Eq (.idx (.var 0) (.int 0)) (.str "keep"))
 (.cons (.ret (.lst .nil))
 .nil)
 .nil)
 (.cons (.ifs (.cmp .Eq (.idx (.var 0) (.int 0)) (.str "pick"))
 (.cons (.ret (.comp true (.nm 6) (.val (.call "_law_made" (.cons (.idx (.var 0) (.int 2)) (.cons (.var 1) (.cons (.var 2) .nil))))) .yes (.tup (.cons (.idx (.var 6) (.int 1)) .nil))))
 .nil)
 .nil)
 (.cons (.ifs (.cmp .Eq (.idx (.var 0) (.int 0)) (.str "distinct"))
 (.cons (.asg (.tg (.nm 3)) (.call "_law_made" (.cons (.idx (.var 0) (.int 1)) (.cons (.var 1) (.cons (.var 2) .nil)))))
 (.cons (.ret (.comp true (.nm 6) (.val (.lst (.cons (.tup (.cons (.int 0) .nil)) (.cons (.tup (.cons (.int 1) .nil)) .nil)))) (.cmp .In (.var 6) (.var 3)) (.var 6)))
 .nil))
 .nil)
 (.cons (.ifs (.cmp .Eq (.idx (.var 0) (.int 0)) (.str "all"))
 (.cons (.ret (.bin .Add (.call "_law_made" (.cons (.idx (.var 0) (.int 1)) (.cons (.var 1) (.cons (.var 2) .nil)))) (.call "_law_made" (.cons (.idx (.var 0) (.int 2)) (.cons (.var 1) (.cons (.var 2) .nil))))))
 .nil)
 .nil)
 (.cons (.ifs (.cmp .Eq (.idx (.var 0) (.int 0)) (.str "group"))
 (.cons (.asg (.tg (.nm 3)) (.call "_law_made" (.cons (.idx (.var 0) (.int 4)) (.cons (.var 1) (.cons (.var 2) .nil)))))
 (.cons (.asg (.tg (.nm 4)) (.comp true (.nm 6) (.val (.var 3)) .yes (.idx (.var 6) (.int 1))))
 (.cons (.ret (.comp true (.nm 7) (.val (.lst (.cons (.int 0) (.cons (.int 1) .nil)))) (.cmp .In (.var 7) (.var 4)) (.tup (.cons (.var 7) (.cons (.bm .count (.var 4) (.cons (.var 7) .nil)) .nil)))))
 .nil)))
 .nil)
 (.cons (.ifs (.or (.cmp .Eq (.idx (.var 0) (.int 0)) (.str "cross")) (.cmp .Eq (.idx (.var 0) (.int 1)) (.tup (.cons (.str "literal") (.cons (.bl true) .nil)))))
 (.cons (.asg (.tg (.nm 5)) (.lst .nil))
 (.cons (.fors (.nm 6) (.val (.var 1))
 (.cons (.asg (.tg (.nm 5)) (.bin .Add (.var 5) (.comp true (.nm 8) (.val (.var 2)) .yes (.bin .Add (.var 6) (.var 8)))))
 .nil))
 (.cons (.ret (.var 5))
 .nil)))
 .nil)
 (.cons (.ifs (.and (.cmp .Eq (.idx (.var 0) (.int 0)) (.str "join")) (.cmp .Eq (.idx (.idx (.var 0) (.int 1)) (.int 0)) (.str "literal")))
 (.cons (.ret (.lst .nil))
 .nil)
 .nil)
 (.cons (.asg (.tg (.nm 4)) (.lst .nil))
 (.cons (.fors (.nm 6) (.val (.var 1))
 (.cons (.asg (.tg (.nm 5)) (.comp true (.nm 8) (.val (.var 2)) (.cmp .Eq (.idx (.var 6) (.int 1)) (.idx (.var 8) (.int 1))) (.bin .Add (.var 6) (.var 8))))
 (.cons (.ifs (.and (.cmp .Eq (.idx (.var 0) (.int 0)) (.str "outer")) (.cmp .Eq (.var 5) (.lst .nil)))
 (.cons (.asg (.tg (.nm 5)) (.lst (.cons (.bin .Add (.var 6) (.tup (.cons .non (.cons .non .nil)))) .nil)))
 .nil)
 .nil)
 (.cons (.asg (.tg (.nm 4)) (.bin .Add (.var 4) (.var 5)))
 .nil))))
 (.cons (.ret (.var 4))
 .nil)))))))))))⟩
def fUlaw_right : Df := ⟨["state", "first", "second", "pick", "plan", "most", "sources", "one", "two", "due", "turn", "found", "k"], ["state", "first", "second", "pick"],
 (.cons (.asg (.tg (.tu [4, 5])) (.call "_law_drawn" (.cons (.var 0) (.cons (.var 1) (.cons (.var 2) (.cons (.var 3) .nil))))))
 (.cons (.asg (.tg (.nm 6)) (.disp ["s0_a", "s0_b"] (.cons (.call "_law_source" (.cons (.str "s0_a") (.cons (.var 1) .nil))) (.cons (.call "_law_source" (.cons (.str "s0_b") (.cons (.var 2) .nil))) .nil))))
 (.cons (.par 7 8 (.blt .list (.cons (.fld (.idx (.var 6) (.str "s0_a")) "rows") .nil)) (.blt .list (.cons (.fld (.idx (.var 6) (.str "s0_b")) "rows") .nil)))
 (.cons (.ifs (.and (.cmp .Eq (.idx (.var 4) (.int 0)) (.str "join")) (.cmp .Eq (.idx (.idx (.var 4) (.int 1)) (.int 0)) (.str "literal")))
 (.cons (.asg (.tg (.nm 5)) (.ite (.cmp .Is (.idx (.idx (.var 4) (.int 1)) (.int 1)) (.bl true)) (.bin .Mult (.var 1) (.var 2)) (.int 0)))
 .nil)
 .nil)
 (.cons (.ifs (.cmp .Is (.var 5) .non)
 (.cons (.asg (.tg (.nm 5)) (.blt .len (.cons (.call "_law_made" (.cons (.var 4) (.cons (.var 7) (.cons (.var 8) .nil)))) .nil)))
 .nil)
 .nil)
 (.cons (.asg (.tg (.nm 9)) (.ite (.cmp .LtE (.blt .max (.cons (.var 5) (.cons (.var 1) (.cons (.var 2) .nil)))) (.int 2000)) (.call "_law_made" (.cons (.var 4) (.cons (.var 7) (.cons (.var 8) .nil)))) .non))
 (.cons (.ifs (.and (.cmp .IsNot (.var 9) .non) (.and (.cmp .Lt (.blt .len (.cons (.var 9) .nil)) (.int 60)) (.cmp .Eq (.call "_law_next" (.cons (.var 0) (.cons (.int 2) .nil))) (.int 0))))
 (.cons (.asg (.tg (.nm 4)) (.tup (.cons (.str "distinct") (.cons (.var 4) .nil))))
 (.cons (.asg (.tg (.nm 9)) (.comp true (.nm 12) (.rng1 (.blt .len (.cons (.var 9) .nil))) (.cmp .NotIn (.idx (.var 9) (.var 12)) (.slc (.var 9) .none (.some (.var 12)))) (.idx (.var 9) (.var 12))))
 .nil))
 .nil)
 (.cons (.fors (.nm 10) (.rng1 (.int 2))
 (.cons (.tryO "NoPlan"
 (.cons (.asg (.tg (.nm 11)) (.call "run" (.cons (.var 4) (.cons (.var 6) (.cons (.lst .nil) .nil)))))
 .nil)
 (.cons (.ifs (.cmp .IsNot (.var 9) .non)
 (.cons (.ret (.bl false))
 .nil)
 .nil)
 (.cons .cont
 .nil)))
 (.cons (.ifs (.or (.cmp .Is (.var 9) .non) (.not (.ex (.call "_law_same" (.cons (.var 11) (.cons (.var 9) .nil))))))
 (.cons (.ret (.bl false))
 .nil)
 .nil)
 .nil)))
 (.cons (.ret (.bl true))
 .nil)))))))))⟩
def f_law : Df := ⟨["script", "state", "first", "second"], ["script"],
 (.cons (.asg (.tg (.nm 1)) (.lst (.cons (.blt .list (.cons (.var 0) .nil)) (.cons (.int 0) (.cons (.int 0) (.cons (.int 1) .nil))))))
 (.cons (.asg (.tg (.tu [2, 3])) (.call "_law_counts" (.cons (.var 1) .nil)))
 (.cons (.ifs (.not (.ex (.call "_law_right" (.cons (.var 1) (.cons (.var 2) (.cons (.var 3) (.cons (.call "_law_next" (.cons (.var 1) (.cons (.int 9) .nil))) .nil)))))))
 (.cons (.ret (.bl false))
 .nil)
 .nil)
 (.cons (.asg (.tg (.tu [2, 3])) (.idx (.lst (.cons (.tup (.cons (.int 40) (.cons (.int 50) .nil))) (.cons (.tup (.cons (.int 20) (.cons (.int 100) .nil))) (.cons (.tup (.cons (.int 1) (.cons (.int 2000) .nil))) (.cons (.tup (.cons (.int 50) (.cons (.int 40) .nil))) .nil))))) (.call "_law_next" (.cons (.var 1) (.cons (.int 4) .nil)))))
 (.cons (.ifs (.not (.ex (.call "_law_right" (.cons (.var 1) (.cons (.var 2) (.cons (.var 3) (.cons (.idx (.lst (.cons (.int 0) (.cons (.int 7) .nil))) (.call "_law_next" (.cons (.var 1) (.cons (.int 2) .nil)))) .nil)))))))
 (.cons (.ret (.bl false))
 .nil)
 .nil)
 (.cons (.asg (.tg (.tu [2, 3])) (.idx (.lst (.cons (.tup (.cons (.int 3) (.cons (.int 667) .nil))) (.cons (.tup (.cons (.int 29) (.cons (.int 69) .nil))) (.cons (.tup (.cons (.int 23) (.cons (.int 87) .nil))) (.cons (.tup (.cons (.int 667) (.cons (.int 3) .nil))) .nil))))) (.call "_law_next" (.cons (.var 1) (.cons (.int 4) .nil)))))
 (.cons (.ret (.call "_law_right" (.cons (.var 1) (.cons (.var 2) (.cons (.var 3) (.cons (.idx (.lst (.cons (.int 0) (.cons (.int 1) (.cons (.int 7) .nil)))) (.call "_law_next" (.cons (.var 1) (.cons (.int 3) .nil)))) .nil))))))
 .nil)))))))⟩
def m_WorldU_initU : Df := ⟨["self", "sources", "parameters"], ["self", "sources", "parameters"],
 (.cons (.asg (.fld (.var 0) "World" "sources") (.var 1))
 (.cons (.asg (.fld (.var 0) "World" "parameters") (.var 2))
 .nil))⟩
def m_FrameU_initU : Df := ⟨["self", "columns", "row", "members", "outer"], ["self", "columns", "row", "members", "outer"],
 (.cons (.asg (.fld (.var 0) "Frame" "columns") (.var 1))
 (.cons (.asg (.fld (.var 0) "Frame" "row") (.var 2))
 (.cons (.asg (.fld (.var 0) "Frame" "members") (.var 3))
 (.cons (.asg (.fld (.var 0) "Frame" "outer") (.var 4))
 .nil))))⟩
def m_RunnerU_initU : Df := ⟨["self", "sources", "parameters"], ["self", "sources", "parameters"],
 (.cons (.asg (.fld (.var 0) "Runner" "sources") (.var 1))
 (.cons (.asg (.fld (.var 0) "Runner" "world") (.make "World" (.cons (.var 1) (.cons (.var 2) .nil))))
 .nil))⟩
def m_Runner_value : Df := ⟨["self", "node", "row", "members", "columns", "index"], ["self", "node", "row", "members"],
 (.cons (.asg (.tg (.nm 4)) (.comp true (.nm 5) (.rng1 (.blt .len (.cons (.var 2) .nil))) .yes (.tup (.cons .non (.cons (.blt .str (.cons (.var 5) .nil)) .nil)))))
 (.cons (.ret (.call "value_of" (.cons (.var 1) (.cons (.make "Frame" (.cons (.var 4) (.cons (.var 2) (.cons (.var 3) (.cons .non .nil))))) (.cons (.fld (.var 0) "world") .nil)))))
 .nil))⟩
def m_Runner_holds : Df := ⟨["self", "condition", "row"], ["self", "condition", "row"],
 (.cons (.ret (.cmp .Is (.meth (.var 0) "value" (.cons (.var 1) (.cons (.var 2) (.cons .non .nil)))) (.bl true)))
 .nil)⟩
def m_Runner_rows : Df := ⟨["self", "plan", "found", "part"], ["self", "plan"],
 (.cons (.asg (.tg (.nm 2)) (.meth (.var 0) "made" (.cons (.var 1) (.cons (.comp true (.nm 3) (.val (.call "below" (.cons (.var 1) .nil))) .yes (.meth (.var 0) "rows" (.cons (.var 3) .nil))) .nil))))
 (.cons (.ifs (.cmp .Gt (.blt .len (.cons (.var 2) .nil)) (.gint "MOST_ROWS" 2000))
 (.cons (.raise "NoPlan")
 .nil)
 .nil)
 (.cons (.ret (.var 2))
 .nil)))⟩
def m_Runner_made : Df := ⟨["self", "plan", "parts", "row", "item"], ["self", "plan", "parts"],
 (.cons (.ifs (.cmp .Eq (.idx (.var 1) (.int 0)) (.str "scan"))
 (.cons (.ret (.blt .list (.cons (.fld (.idx (.fld (.var 0) "sources") (.idx (.var 1) (.int 1))) "rows") .nil)))
 .nil)
 .nil)
 (.cons (.ifs (.cmp .Eq (.idx (.var 1) (.int 0)) (.str "one"))
 (.cons (.ret (.lst (.cons (.tup .nil) .nil)))
 .nil)
 .nil)
 (.cons (.ifs (.cmp .Eq (.idx (.var 1) (.int 0)) (.str "keep"))
 (.cons (.ret (.comp true (.nm 3) (.val (.idx (.var 2) (.int 0))) (.ex (.meth (.var 0) "holds" (.cons (.idx (.var 1) (.int 1)) (.cons (.var 3) .nil)))) (.var 3)))
 .nil)
 .nil)
 (.cons (.ifs (.cmp .Eq (.idx (.var 1) (.int 0)) (.str "pick"))
 (.cons (.ret (.comp true (.nm 3) (.val (.idx (.var 2) (.int 0))) .yes (.blt .tuple (.cons (.comp false (.nm 4) (.val (.idx (.var 1) (.int 1))) .yes (.meth (.var 0) "value" (.cons (.var 4) (.cons (.var 3) (.cons .non .nil))))) .nil))))
 .nil)
 .nil)
 (.cons (.ifs (.cmp .Eq (.idx (.var 1) (.int 0)) (.str "distinct"))
 (.cons (.ret (.call "without_repeats" (.cons (.idx (.var 2) (.int 0)) .nil)))
 .nil)
 .nil)
 (.cons (.ifs (.cmp .Eq (.idx (.var 1) (.int 0)) (.str "group"))
 (.cons (.ret (.meth (.var 0) "groups" (.cons (.var 1) (.cons (.idx (.var 2) (.int 0)) .nil))))
 .nil)
 .nil)
 (.cons (.ret (.meth (.var 0) "joined" (.cons (.var 1) (.cons (.idx (.var 2) (.int 0)) (.cons (.idx (.var 2) (.int 1)) .nil)))))
 .nil)))))))⟩
def m_Runner_joined : Df := ⟨["self", "plan", "first", "second", "there", "wanted", "row", "other"], ["self", "plan", "first", "second"],
 (.cons (.ifs (.cmp .Eq (.idx (.var 1) (.int 0)) (.str "cross"))
 (.cons (.ifs (.cmp .Gt (.bin .Mult (.blt .len (.cons (.var 2) .nil)) (.blt .len (.cons (.var 3) .nil))) (.gint "MOST_ROWS" 2000))
 (.cons (.raise "NoPlan")
 .nil)
 .nil)
 (.cons (.ret (.comp2 (.nm 6) (.val (.var 2)) (.nm 7) (.val (.var 3)) .yes (.bin .Add (.var 6) (.var 7))))
 .nil))
 .nil)
 (.cons (.ifs (.cmp .Eq (.idx (.var 1) (.int 0)) (.str "join"))
 (.cons (.ret (.comp2 (.nm 6) (.val (.var 2)) (.nm 7) (.val (.var 3)) (.ex (.meth (.var 0) "holds" (.cons (.idx (.var 1) (.int 1)) (.cons (.bin .Add (.var 6) (.var 7)) .nil)))) (.bin .Add (.var 6) (.var 7))))
 .nil)
 .nil)
 (.cons (.ifs (.cmp .Eq (.idx (.var 1) (.int 0)) (.str "match"))
 (.cons (.ret (.comp2 (.nm 6) (.val (.var 2)) (.nm 7) (.val (.var 3)) (.ex (.meth (.var 0) "meets" (.cons (.idx (.var 1) (.int 1)) (.cons (.bin .Add (.var 6) (.var 7)) .nil)))) (.bin .Add (.var 6) (.var 7))))
 .nil)
 .nil)
 (.cons (.ifs (.cmp .Eq (.idx (.var 1) (.int 0)) (.str "outer"))
 (.cons (.ret (.meth (.var 0) "outer" (.cons (.var 1) (.cons (.var 2) (.cons (.var 3) .nil)))))
 .nil)
 .nil)
 (.cons (.ifs (.cmp .Eq (.idx (.var 1) (.int 0)) (.str "all"))
 (.cons (.ret (.bin .Add (.var 2) (.var 3)))
 .nil)
 .nil)
 (.cons .bad
 (.cons (.asg (.tg (.nm 5)) (.cmp .Eq (.idx (.var 1) (.int 0)) (.str "intersect")))
 (.cons (.ret (.call "without_repeats" (.cons (.comp true (.nm 6) (.val (.var 2)) (.cmp .Eq (.cmp .In (.call "row_key" (.cons (.var 6) .nil)) (.var 4)) (.var 5)) (.var 6)) .nil)))
 .nil))))))))⟩
def m_Runner_meets : Df := ⟨["self", "pairs", "row", "one", "other"], ["self", "pairs", "row"],
 (.cons (.fors (.tu [3, 4]) (.val (.var 1))
 (.cons (.ifs (.or (.cmp .Is (.idx (.var 2) (.var 3)) .non) (.not (.ex (.call "same" (.cons (.idx (.var 2) (.var 3)) (.cons (.idx (.var 2) (.var 4)) .nil))))))
 (.cons (.ret (.bl false))
 .nil)
 .nil)
 .nil))
 (.cons (.ret (.bl true))
 .nil))⟩
def m_Runner_outer : Df := ⟨["self", "plan", "first", "second", "found", "lacking", "row", "met", "_", "other"], ["self", "plan", "first", "second"],
 (.cons (.asg (.tg (.nm 4)) (.lst .nil))
 (.cons (.asg (.tg (.nm 5)) (.blt .tuple (.cons (.comp true (.nm 8) (.rng1 (.call "width" (.cons (.idx (.var 1) (.int 3)) (.cons (.fld (.var 0) "sources") .nil)))) .yes .non) .nil)))
 (.cons (.fors (.nm 6) (.val (.var 2))
 (.cons (.asg (.tg (.nm 7)) (.comp true (.nm 9) (.val (.var 3)) (.ex (.meth (.var 0) "holds" (.cons (.idx (.var 1) (.int 1)) (.cons (.bin .Add (.var 6) (.var 9)) .nil)))) (.bin .Add (.var 6) (.var 9))))
 (.cons (.expr (.bm .extend (.var 4) (.cons (.ite (.cmp .NotEq (.var 7) (.lst .nil)) (.var 7) (.lst (.cons (.bin .Add (.var 6) (.var 5)) .nil))) .nil)))
 .nil)))
 (.cons (.ret (.var 4))
 .nil))))⟩
def m_Runner_groups : Df := ⟨["self", "plan", "rows", "groups", "row", "key", "found", "members", "first", "index", "item"], ["self", "plan", "rows"],
 (.cons (.asg (.tg (.nm 3)) .dnewT)
 (.cons (.fors (.nm 4) (.val (.var 2))
 (.cons (.asg (.tg (.nm 5)) (.ite (.cmp .Is (.idx (.var 1) (.int 1)) .non) (.tup .nil) (.call "row_key" (.cons (.comp true (.nm 9) (.val (.idx (.var 1) (.int 1))) .yes (.idx (.var 4) (.var 9))) .nil))))
 (.cons (.expr (.bm .append (.bm .setd (.var 3) (.cons (.var 5) (.cons (.lst .nil) .nil))) (.cons (.var 4) .nil)))
 .nil)))
 (.cons (.ifs (.and (.cmp .Is (.idx (.var 1) (.int 1)) .non) (.cmp .Eq (.var 2) (.lst .nil)))
 (.cons (.asg (.sub (.var 3) (.tup .nil)) (.lst .nil))
 .nil)
 .nil)
 (.cons (.asg (.tg (.nm 6)) (.lst .nil))
 (.cons (.forV (.nm 7) 3
 (.cons (.asg (.tg (.nm 8)) (.ite (.cmp .NotEq (.var 7) (.lst .nil)) (.idx (.var 7) (.int 0)) (.tup .nil)))
 (.cons (.ifs (.or (.cmp .Is (.idx (.var 1) (.int 3)) .non) (.cmp .Is (.meth (.var 0) "value" (.cons (.idx (.var 1) (.int 3)) (.cons (.var 8) (.cons (.var 7) .nil)))) (.bl true)))
 (.cons (.expr (.bm .append (.var 6) (.cons (.blt .tuple (.cons (.comp true (.nm 10) (.val (.idx (.var 1) (.int 2))) .yes (.meth (.var 0) "value" (.cons (.var 10) (.cons (.var 8) (.cons (.var 7) .nil))))) .nil)) .nil)))
 .nil)
 .nil)
 .nil)))
 (.cons (.ret (.var 6))
 .nil))))))⟩
def m_SourceU_initU : Df := ⟨["self", "name", "columns", "kinds", "rows"], ["self", "name", "columns", "kinds", "rows"],
 (.cons (.asg (.fld (.var 0) "Source" "name") (.var 1))
 (.cons (.asg (.fld (.var 0) "Source" "columns") (.blt .list (.cons (.var 2) .nil)))
 (.cons (.asg (.fld (.var 0) "Source" "kinds") (.blt .list (.cons (.var 3) .nil)))
 (.cons (.asg (.fld (.var 0) "Source" "rows") (.blt .list (.cons (.var 4) .nil)))
 .nil))))⟩
def kd (c f : Str) (d : Df) : (Str × Str) × Df := ((c, f), d)
def keys0 : List ((Str × Str) × Df) := [
  kd Str.empty "named" f_named,
  kd Str.empty "locate" f_locate,
  kd Str.empty "own_index" f_own_index,
  kd Str.empty "operands" f_operands,
  kd Str.empty "has_aggregate" f_has_aggregate,
  kd Str.empty "is_grouping" f_is_grouping,
  kd Str.empty "item_name" f_item_name,
  kd Str.empty "known_as" f_known_as,
  kd Str.empty "value_key" f_value_key,
  kd Str.empty "row_key" f_row_key,
  kd Str.empty "same" f_same,
  kd Str.empty "bounded" f_bounded]
def keys1 : List ((Str × Str) × Df) := [
  kd Str.empty "quotient" f_quotient,
  kd Str.empty "arithmetic" f_arithmetic,
  kd Str.empty "compare" f_compare,
  kd Str.empty "negation" f_negation,
  kd Str.empty "conjunction" f_conjunction,
  kd Str.empty "disjunction" f_disjunction,
  kd Str.empty "value_of" f_value_of,
  kd Str.empty "combined" f_combined,
  kd Str.empty "membership" f_membership,
  kd Str.empty "is_among" f_is_among,
  kd Str.empty "aggregate" f_aggregate,
  kd Str.empty "kept_frames" f_kept_frames]
def keys2 : List ((Str × Str) × Df) := [
  kd Str.empty "without_repeats" f_without_repeats,
  kd Str.empty "table_result" f_table_result,
  kd Str.empty "source_result" f_source_result,
  kd Str.empty "grouped_frames" f_grouped_frames,
  kd Str.empty "select_result" f_select_result,
  kd Str.empty "made_row" f_made_row,
  kd Str.empty "result_of" f_result_of,
  kd Str.empty "below" f_below,
  kd Str.empty "is_plan" f_is_plan,
  kd Str.empty "width" f_width,
  kd Str.empty "run" f_run,
  kd Str.empty "_law_next" fUlaw_next]
def keys3 : List ((Str × Str) × Df) := [
  kd Str.empty "_law_same" fUlaw_same,
  kd Str.empty "_law_source" fUlaw_source,
  kd Str.empty "_law_counts" fUlaw_counts,
  kd Str.empty "_law_column" fUlaw_column,
  kd Str.empty "_law_drawn" fUlaw_drawn,
  kd Str.empty "_law_made" fUlaw_made,
  kd Str.empty "_law_right" fUlaw_right,
  kd Str.empty "law" f_law,
  kd "World" "__init__" m_WorldU_initU,
  kd "Frame" "__init__" m_FrameU_initU,
  kd "Runner" "__init__" m_RunnerU_initU,
  kd "Runner" "value" m_Runner_value]
def keys4 : List ((Str × Str) × Df) := [
  kd "Runner" "holds" m_Runner_holds,
  kd "Runner" "rows" m_Runner_rows,
  kd "Runner" "made" m_Runner_made,
  kd "Runner" "joined" m_Runner_joined,
  kd "Runner" "meets" m_Runner_meets,
  kd "Runner" "outer" m_Runner_outer,
  kd "Runner" "groups" m_Runner_groups,
  kd "Source" "__init__" m_SourceU_initU]
def keys : List ((Str × Str) × Df) := keys0 ++ keys1 ++ keys2 ++ keys3 ++ keys4
def exm : List (Str × Str × Bool) := [("NoPlan", "NoPlan", true)]
def pg : Pg := ⟨keys, aboveOf exm⟩
end PK

set_option Elab.async false
set_option linter.all false
set_option maxRecDepth 100000
set_option maxHeartbeats 0
namespace EK
open PySem PySem.Spec PyProof.Rows L2 Ev PK
def top (i : Nat) : Stmt := PySem.Challenge.pw_kithwhole_k99_steps_make_at_most_2000_ro.main.body.getD i (.Pass ⟨0, 0, 0, 0⟩)
def e_f_named : Ev.Entry := ⟨⟨("named", none), "named", "named", defArgs (top 9), defBody (top 9), defScope (top 9), [], []⟩, f_named⟩
def e_f_locate : Ev.Entry := ⟨⟨("locate", none), "locate", "locate", defArgs (top 10), defBody (top 10), defScope (top 10), [], []⟩, f_locate⟩
def e_f_own_index : Ev.Entry := ⟨⟨("own_index", none), "own_index", "own_index", defArgs (top 11), defBody (top 11), defScope (top 11), [], []⟩, f_own_index⟩
def e_f_operands : Ev.Entry := ⟨⟨("operands", none), "operands", "operands", defArgs (top 13), defBody (top 13), defScope (top 13), [], []⟩, f_operands⟩
def e_f_has_aggregate : Ev.Entry := ⟨⟨("has_aggregate", none), "has_aggregate", "has_aggregate", defArgs (top 14), defBody (top 14), defScope (top 14), [], []⟩, f_has_aggregate⟩
def e_f_is_grouping : Ev.Entry := ⟨⟨("is_grouping", none), "is_grouping", "is_grouping", defArgs (top 15), defBody (top 15), defScope (top 15), [], []⟩, f_is_grouping⟩
def e_f_item_name : Ev.Entry := ⟨⟨("item_name", none), "item_name", "item_name", defArgs (top 16), defBody (top 16), defScope (top 16), [], []⟩, f_item_name⟩
def e_f_known_as : Ev.Entry := ⟨⟨("known_as", none), "known_as", "known_as", defArgs (top 17), defBody (top 17), defScope (top 17), [], []⟩, f_known_as⟩
def e_f_value_key : Ev.Entry := ⟨⟨("value_key", none), "value_key", "value_key", defArgs (top 21), defBody (top 21), defScope (top 21), [], []⟩, f_value_key⟩
def e_f_row_key : Ev.Entry := ⟨⟨("row_key", none), "row_key", "row_key", defArgs (top 22), defBody (top 22), defScope (top 22), [], []⟩, f_row_key⟩
def e_f_same : Ev.Entry := ⟨⟨("same", none), "same", "same", defArgs (top 23), defBody (top 23), defScope (top 23), [], []⟩, f_same⟩
def e_f_bounded : Ev.Entry := ⟨⟨("bounded", none), "bounded", "bounded", defArgs (top 24), defBody (top 24), defScope (top 24), [], []⟩, f_bounded⟩
def e_f_quotient : Ev.Entry := ⟨⟨("quotient", none), "quotient", "quotient", defArgs (top 25), defBody (top 25), defScope (top 25), [], []⟩, f_quotient⟩
def e_f_arithmetic : Ev.Entry := ⟨⟨("arithmetic", none), "arithmetic", "arithmetic", defArgs (top 26), defBody (top 26), defScope (top 26), [], []⟩, f_arithmetic⟩
def e_f_compare : Ev.Entry := ⟨⟨("compare", none), "compare", "compare", defArgs (top 27), defBody (top 27), defScope (top 27), [], []⟩, f_compare⟩
def e_f_negation : Ev.Entry := ⟨⟨("negation", none), "negation", "negation", defArgs (top 28), defBody (top 28), defScope (top 28), [], []⟩, f_negation⟩
def e_f_conjunction : Ev.Entry := ⟨⟨("conjunction", none), "conjunction", "conjunction", defArgs (top 29), defBody (top 29), defScope (top 29), [], []⟩, f_conjunction⟩
def e_f_disjunction : Ev.Entry := ⟨⟨("disjunction", none), "disjunction", "disjunction", defArgs (top 30), defBody (top 30), defScope (top 30), [], []⟩, f_disjunction⟩
def e_f_value_of : Ev.Entry := ⟨⟨("value_of", none), "value_of", "value_of", defArgs (top 33), defBody (top 33), defScope (top 33), [], []⟩, f_value_of⟩
def e_f_combined : Ev.Entry := ⟨⟨("combined", none), "combined", "combined", defArgs (top 34), defBody (top 34), defScope (top 34), [], []⟩, f_combined⟩
def e_f_membership : Ev.Entry := ⟨⟨("membership", none), "membership", "membership", defArgs (top 35), defBody (top 35), defScope (top 35), [], []⟩, f_membership⟩
def e_f_is_among : Ev.Entry := ⟨⟨("is_among", none), "is_among", "is_among", defArgs (top 36), defBody (top 36), defScope (top 36), [], []⟩, f_is_among⟩
def e_f_aggregate : Ev.Entry := ⟨⟨("aggregate", none), "aggregate", "aggregate", defArgs (top 37), defBody (top 37), defScope (top 37), [], []⟩, f_aggregate⟩
def e_f_kept_frames : Ev.Entry := ⟨⟨("kept_frames", none), "kept_frames", "kept_frames", defArgs (top 38), defBody (top 38), defScope (top 38), [], []⟩, f_kept_frames⟩
def e_f_without_repeats : Ev.Entry := ⟨⟨("without_repeats", none), "without_repeats", "without_repeats", defArgs (top 39), defBody (top 39), defScope (top 39), [], []⟩, f_without_repeats⟩
def e_f_table_result : Ev.Entry := ⟨⟨("table_result", none), "table_result", "table_result", defArgs (top 40), defBody (top 40), defScope (top 40), [], []⟩, f_table_result⟩
def e_f_source_result : Ev.Entry := ⟨⟨("source_result", none), "source_result", "source_result", defArgs (top 41), defBody (top 41), defScope (top 41), [], []⟩, f_source_result⟩
def e_f_grouped_frames : Ev.Entry := ⟨⟨("grouped_frames", none), "grouped_frames", "grouped_frames", defArgs (top 42), defBody (top 42), defScope (top 42), [], []⟩, f_grouped_frames⟩
def e_f_select_result : Ev.Entry := ⟨⟨("select_result", none), "select_result", "select_result", defArgs (top 43), defBody (top 43), defScope (top 43), [], []⟩, f_select_result⟩
def e_f_made_row : Ev.Entry := ⟨⟨("made_row", none), "made_row", "made_row", defArgs (top 44), defBody (top 44), defScope (top 44), [], []⟩, f_made_row⟩
def e_f_result_of : Ev.Entry := ⟨⟨("result_of", none), "result_of", "result_of", defArgs (top 45), defBody (top 45), defScope (top 45), [], []⟩, f_result_of⟩
def e_f_below : Ev.Entry := ⟨⟨("below", none), "below", "below", defArgs (top 49), defBody (top 49), defScope (top 49), [], []⟩, f_below⟩
def e_f_is_plan : Ev.Entry := ⟨⟨("is_plan", none), "is_plan", "is_plan", defArgs (top 50), defBody (top 50), defScope (top 50), [], []⟩, f_is_plan⟩
def e_f_width : Ev.Entry := ⟨⟨("width", none), "width", "width", defArgs (top 51), defBody (top 51), defScope (top 51), [], []⟩, f_width⟩
def e_f_run : Ev.Entry := ⟨⟨("run", none), "run", "run", defArgs (top 53), defBody (top 53), defScope (top 53), [], []⟩, f_run⟩
def e_fUlaw_next : Ev.Entry := ⟨⟨("_law_next", none), "_law_next", "_law_next", defArgs (top 57), defBody (top 57), defScope (top 57), [], []⟩, fUlaw_next⟩
def e_fUlaw_same : Ev.Entry := ⟨⟨("_law_same", none), "_law_same", "_law_same", defArgs (top 58), defBody (top 58), defScope (top 58), [], []⟩, fUlaw_same⟩
def e_fUlaw_source : Ev.Entry := ⟨⟨("_law_source", none), "_law_source", "_law_source", defArgs (top 59), defBody (top 59), defScope (top 59), [], []⟩, fUlaw_source⟩
def e_fUlaw_counts : Ev.Entry := ⟨⟨("_law_counts", none), "_law_counts", "_law_counts", defArgs (top 60), defBody (top 60), defScope (top 60), [], []⟩, fUlaw_counts⟩
def e_fUlaw_column : Ev.Entry := ⟨⟨("_law_column", none), "_law_column", "_law_column", defArgs (top 61), defBody (top 61), defScope (top 61), [], []⟩, fUlaw_column⟩
def e_fUlaw_drawn : Ev.Entry := ⟨⟨("_law_drawn", none), "_law_drawn", "_law_drawn", defArgs (top 62), defBody (top 62), defScope (top 62), [], []⟩, fUlaw_drawn⟩
def e_fUlaw_made : Ev.Entry := ⟨⟨("_law_made", none), "_law_made", "_law_made", defArgs (top 63), defBody (top 63), defScope (top 63), [], []⟩, fUlaw_made⟩
def e_fUlaw_right : Ev.Entry := ⟨⟨("_law_right", none), "_law_right", "_law_right", defArgs (top 64), defBody (top 64), defScope (top 64), [], []⟩, fUlaw_right⟩
def e_f_law : Ev.Entry := ⟨⟨("law", none), "law", "law", defArgs (top 65), defBody (top 65), defScope (top 65), [], []⟩, f_law⟩
def e_m_WorldU_initU : Ev.Entry := ⟨⟨("World", some "__init__"), "__init__", "World.__init__", defArgs (inClass (top 7) 0), defBody (inClass (top 7) 0), defScope (inClass (top 7) 0), [], []⟩, m_WorldU_initU⟩
def e_m_FrameU_initU : Ev.Entry := ⟨⟨("Frame", some "__init__"), "__init__", "Frame.__init__", defArgs (inClass (top 8) 0), defBody (inClass (top 8) 0), defScope (inClass (top 8) 0), [], []⟩, m_FrameU_initU⟩
def e_m_RunnerU_initU : Ev.Entry := ⟨⟨("Runner", some "__init__"), "__init__", "Runner.__init__", defArgs (inClass (top 52) 0), defBody (inClass (top 52) 0), defScope (inClass (top 52) 0), [], []⟩, m_RunnerU_initU⟩
def e_m_Runner_value : Ev.Entry := ⟨⟨("Runner", some "value"), "value", "Runner.value", defArgs (inClass (top 52) 1), defBody (inClass (top 52) 1), defScope (inClass (top 52) 1), [], []⟩, m_Runner_value⟩
def e_m_Runner_holds : Ev.Entry := ⟨⟨("Runner", some "holds"), "holds", "Runner.holds", defArgs (inClass (top 52) 2), defBody (inClass (top 52) 2), defScope (inClass (top 52) 2), [], []⟩, m_Runner_holds⟩
def e_m_Runner_rows : Ev.Entry := ⟨⟨("Runner", some "rows"), "rows", "Runner.rows", defArgs (inClass (top 52) 3), defBody (inClass (top 52) 3), defScope (inClass (top 52) 3), [], []⟩, m_Runner_rows⟩
def e_m_Runner_made : Ev.Entry := ⟨⟨("Runner", some "made"), "made", "Runner.made", defArgs (inClass (top 52) 4), defBody (inClass (top 52) 4), defScope (inClass (top 52) 4), [], []⟩, m_Runner_made⟩
def e_m_Runner_joined : Ev.Entry := ⟨⟨("Runner", some "joined"), "joined", "Runner.joined", defArgs (inClass (top 52) 5), defBody (inClass (top 52) 5), defScope (inClass (top 52) 5), [], []⟩, m_Runner_joined⟩
def e_m_Runner_meets : Ev.Entry := ⟨⟨("Runner", some "meets"), "meets", "Runner.meets", defArgs (inClass (top 52) 6), defBody (inClass (top 52) 6), defScope (inClass (top 52) 6), [], []⟩, m_Runner_meets⟩
def e_m_Runner_outer : Ev.Entry := ⟨⟨("Runner", some "outer"), "outer", "Runner.outer", defArgs (inClass (top 52) 7), defBody (inClass (top 52) 7), defScope (inClass (top 52) 7), [], []⟩, m_Runner_outer⟩
def e_m_Runner_groups : Ev.Entry := ⟨⟨("Runner", some "groups"), "groups", "Runner.groups", defArgs (inClass (top 52) 8), defBody (inClass (top 52) 8), defScope (inClass (top 52) 8), [], []⟩, m_Runner_groups⟩
def e_m_SourceU_initU : Ev.Entry := ⟨⟨("Source", some "__init__"), "__init__", "Source.__init__", defArgs (inClass (top 55) 0), defBody (inClass (top 55) 0), defScope (inClass (top 55) 0), [], []⟩, m_SourceU_initU⟩
def es0 : List Ev.Entry := [e_f_named, e_f_locate, e_f_own_index, e_f_operands, e_f_has_aggregate, e_f_is_grouping, e_f_item_name, e_f_known_as, e_f_value_key, e_f_row_key, e_f_same, e_f_bounded]
def es1 : List Ev.Entry := [e_f_quotient, e_f_arithmetic, e_f_compare, e_f_negation, e_f_conjunction, e_f_disjunction, e_f_value_of, e_f_combined, e_f_membership, e_f_is_among, e_f_aggregate, e_f_kept_frames]
def es2 : List Ev.Entry := [e_f_without_repeats, e_f_table_result, e_f_source_result, e_f_grouped_frames, e_f_select_result, e_f_made_row, e_f_result_of, e_f_below, e_f_is_plan, e_f_width, e_f_run, e_fUlaw_next]
def es3 : List Ev.Entry := [e_fUlaw_same, e_fUlaw_source, e_fUlaw_counts, e_fUlaw_column, e_fUlaw_drawn, e_fUlaw_made, e_fUlaw_right, e_f_law, e_m_WorldU_initU, e_m_FrameU_initU, e_m_RunnerU_initU, e_m_Runner_value]
def es4 : List Ev.Entry := [e_m_Runner_holds, e_m_Runner_rows, e_m_Runner_made, e_m_Runner_joined, e_m_Runner_meets, e_m_Runner_outer, e_m_Runner_groups, e_m_SourceU_initU]
def es : List Ev.Entry := es0 ++ es1 ++ es2 ++ es3 ++ es4
def fns0 : List Str := ["_law_column", "_law_counts", "_law_drawn", "_law_made", "_law_next", "_law_right", "_law_same", "_law_source", "aggregate", "arithmetic", "below", "bounded", "combined", "compare", "conjunction", "disjunction"]
def fns1 : List Str := ["grouped_frames", "is_among", "is_grouping", "is_plan", "item_name", "kept_frames", "known_as", "law", "locate", "made_row", "membership", "named", "negation", "own_index", "quotient", "result_of"]
def fns2 : List Str := ["row_key", "run", "same", "select_result", "source_result", "table_result", "value_key", "value_of", "width", "without_repeats"]
def tup_COMPARISONS : List D := [(.str "="), (.str "<>"), (.str "<"), (.str "<="), (.str ">"), (.str ">=")]
def tup_WORDS : List D := [(.str "scan"), (.str "one"), (.str "cross"), (.str "join"), (.str "match"), (.str "outer"), (.str "keep"), (.str "pick"), (.str "distinct"), (.str "group"), (.str "all"), (.str "except"), (.str "intersect")]
def noat0 : List (Str × Str) := [("Frame", "columns"), ("Frame", "members"), ("Frame", "outer"), ("Frame", "row"), ("Runner", "sources"), ("Runner", "world"), ("Source", "columns"), ("Source", "kinds"), ("Source", "name"), ("Source", "rows"), ("World", "parameters"), ("World", "sources")]
def gi : Gi := ⟨fns0 ++ fns1 ++ fns2, ["Frame", "Runner", "Source", "World"], ["NoPlan"], [("BOUND", 10000000000000000000000000000000000000000), ("LONGEST_TEXT", 2000), ("MOST_ROWS", 2000)], [("COMPARISONS", tup_COMPARISONS), ("WORDS", tup_WORDS)], ["abs", "bool", "enumerate", "int", "isinstance", "len", "list", "max", "range", "str", "sum", "tuple"], noat0⟩
theorem c_f_named : chkSs gi (defCi e_f_named.df e_f_named.d.scope) e_f_named.df.body e_f_named.d.body = true := by decide +kernel
theorem s_f_named : FnScope e_f_named.df.names e_f_named.df.pars e_f_named.d.scope := ⟨rfl, rfl, rfl, by decide +kernel, rfl, by decide +kernel, by decide +kernel⟩
theorem b_f_named : BindOk e_f_named.d e_f_named.df.pars := fun _ _ _ _ _ _ us hl => match us, hl with | [_, _, _], _ => rfl
theorem c_f_locate : chkSs gi (defCi e_f_locate.df e_f_locate.d.scope) e_f_locate.df.body e_f_locate.d.body = true := by decide +kernel
theorem s_f_locate : FnScope e_f_locate.df.names e_f_locate.df.pars e_f_locate.d.scope := ⟨rfl, rfl, rfl, by decide +kernel, rfl, by decide +kernel, by decide +kernel⟩
theorem b_f_locate : BindOk e_f_locate.d e_f_locate.df.pars := fun _ _ _ _ _ _ us hl => match us, hl with | [_, _, _], _ => rfl
theorem c_f_own_index : chkSs gi (defCi e_f_own_index.df e_f_own_index.d.scope) e_f_own_index.df.body e_f_own_index.d.body = true := by decide +kernel
theorem s_f_own_index : FnScope e_f_own_index.df.names e_f_own_index.df.pars e_f_own_index.d.scope := ⟨rfl, rfl, rfl, by decide +kernel, rfl, by decide +kernel, by decide +kernel⟩
theorem b_f_own_index : BindOk e_f_own_index.d e_f_own_index.df.pars := fun _ _ _ _ _ _ us hl => match us, hl with | [_, _], _ => rfl
theorem c_f_operands : chkSs gi (defCi e_f_operands.df e_f_operands.d.scope) e_f_operands.df.body e_f_operands.d.body = true := by decide +kernel
theorem s_f_operands : FnScope e_f_operands.df.names e_f_operands.df.pars e_f_operands.d.scope := ⟨rfl, rfl, rfl, by decide +kernel, rfl, by decide +kernel, by decide +kernel⟩
theorem b_f_operands : BindOk e_f_operands.d e_f_operands.df.pars := fun _ _ _ _ _ _ us hl => match us, hl with | [_], _ => rfl
theorem c_f_has_aggregate : chkSs gi (defCi e_f_has_aggregate.df e_f_has_aggregate.d.scope) e_f_has_aggregate.df.body e_f_has_aggregate.d.body = true := by decide +kernel
theorem s_f_has_aggregate : FnScope e_f_has_aggregate.df.names e_f_has_aggregate.df.pars e_f_has_aggregate.d.scope := ⟨rfl, rfl, rfl, by decide +kernel, rfl, by decide +kernel, by decide +kernel⟩
theorem b_f_has_aggregate : BindOk e_f_has_aggregate.d e_f_has_aggregate.df.pars := fun _ _ _ _ _ _ us hl => match us, hl with | [_], _ => rfl
theorem c_f_is_grouping : chkSs gi (defCi e_f_is_grouping.df e_f_is_grouping.d.scope) e_f_is_grouping.df.body e_f_is_grouping.d.body = true := by decide +kernel
theorem s_f_is_grouping : FnScope e_f_is_grouping.df.names e_f_is_grouping.df.pars e_f_is_grouping.d.scope := ⟨rfl, rfl, rfl, by decide +kernel, rfl, by decide +kernel, by decide +kernel⟩
theorem b_f_is_grouping : BindOk e_f_is_grouping.d e_f_is_grouping.df.pars := fun _ _ _ _ _ _ us hl => match us, hl with | [_], _ => rfl
theorem c_f_item_name : chkSs gi (defCi e_f_item_name.df e_f_item_name.d.scope) e_f_item_name.df.body e_f_item_name.d.body = true := by decide +kernel
theorem s_f_item_name : FnScope e_f_item_name.df.names e_f_item_name.df.pars e_f_item_name.d.scope := ⟨rfl, rfl, rfl, by decide +kernel, rfl, by decide +kernel, by decide +kernel⟩
theorem b_f_item_name : BindOk e_f_item_name.d e_f_item_name.df.pars := fun _ _ _ _ _ _ us hl => match us, hl with | [_], _ => rfl
theorem c_f_known_as : chkSs gi (defCi e_f_known_as.df e_f_known_as.d.scope) e_f_known_as.df.body e_f_known_as.d.body = true := by decide +kernel
theorem s_f_known_as : FnScope e_f_known_as.df.names e_f_known_as.df.pars e_f_known_as.d.scope := ⟨rfl, rfl, rfl, by decide +kernel, rfl, by decide +kernel, by decide +kernel⟩
theorem b_f_known_as : BindOk e_f_known_as.d e_f_known_as.df.pars := fun _ _ _ _ _ _ us hl => match us, hl with | [_], _ => rfl
theorem c_f_value_key : chkSs gi (defCi e_f_value_key.df e_f_value_key.d.scope) e_f_value_key.df.body e_f_value_key.d.body = true := by decide +kernel
theorem s_f_value_key : FnScope e_f_value_key.df.names e_f_value_key.df.pars e_f_value_key.d.scope := ⟨rfl, rfl, rfl, by decide +kernel, rfl, by decide +kernel, by decide +kernel⟩
theorem b_f_value_key : BindOk e_f_value_key.d e_f_value_key.df.pars := fun _ _ _ _ _ _ us hl => match us, hl with | [_], _ => rfl
theorem c_f_row_key : chkSs gi (defCi e_f_row_key.df e_f_row_key.d.scope) e_f_row_key.df.body e_f_row_key.d.body = true := by decide +kernel
theorem s_f_row_key : FnScope e_f_row_key.df.names e_f_row_key.df.pars e_f_row_key.d.scope := ⟨rfl, rfl, rfl, by decide +kernel, rfl, by decide +kernel, by decide +kernel⟩
theorem b_f_row_key : BindOk e_f_row_key.d e_f_row_key.df.pars := fun _ _ _ _ _ _ us hl => match us, hl with | [_], _ => rfl
theorem c_f_same : chkSs gi (defCi e_f_same.df e_f_same.d.scope) e_f_same.df.body e_f_same.d.body = true := by decide +kernel
theorem s_f_same : FnScope e_f_same.df.names e_f_same.df.pars e_f_same.d.scope := ⟨rfl, rfl, rfl, by decide +kernel, rfl, by decide +kernel, by decide +kernel⟩
theorem b_f_same : BindOk e_f_same.d e_f_same.df.pars := fun _ _ _ _ _ _ us hl => match us, hl with | [_, _], _ => rfl
theorem c_f_bounded : chkSs gi (defCi e_f_bounded.df e_f_bounded.d.scope) e_f_bounded.df.body e_f_bounded.d.body = true := by decide +kernel
theorem s_f_bounded : FnScope e_f_bounded.df.names e_f_bounded.df.pars e_f_bounded.d.scope := ⟨rfl, rfl, rfl, by decide +kernel, rfl, by decide +kernel, by decide +kernel⟩
theorem b_f_bounded : BindOk e_f_bounded.d e_f_bounded.df.pars := fun _ _ _ _ _ _ us hl => match us, hl with | [_], _ => rfl
theorem c_f_quotient : chkSs gi (defCi e_f_quotient.df e_f_quotient.d.scope) e_f_quotient.df.body e_f_quotient.d.body = true := by decide +kernel
theorem s_f_quotient : FnScope e_f_quotient.df.names e_f_quotient.df.pars e_f_quotient.d.scope := ⟨rfl, rfl, rfl, by decide +kernel, rfl, by decide +kernel, by decide +kernel⟩
theorem b_f_quotient : BindOk e_f_quotient.d e_f_quotient.df.pars := fun _ _ _ _ _ _ us hl => match us, hl with | [_, _], _ => rfl
theorem c_f_arithmetic : chkSs gi (defCi e_f_arithmetic.df e_f_arithmetic.d.scope) e_f_arithmetic.df.body e_f_arithmetic.d.body = true := by decide +kernel
theorem s_f_arithmetic : FnScope e_f_arithmetic.df.names e_f_arithmetic.df.pars e_f_arithmetic.d.scope := ⟨rfl, rfl, rfl, by decide +kernel, rfl, by decide +kernel, by decide +kernel⟩
theorem b_f_arithmetic : BindOk e_f_arithmetic.d e_f_arithmetic.df.pars := fun _ _ _ _ _ _ us hl => match us, hl with | [_, _, _], _ => rfl
theorem c_f_compare : chkSs gi (defCi e_f_compare.df e_f_compare.d.scope) e_f_compare.df.body e_f_compare.d.body = true := by decide +kernel
theorem s_f_compare : FnScope e_f_compare.df.names e_f_compare.df.pars e_f_compare.d.scope := ⟨rfl, rfl, rfl, by decide +kernel, rfl, by decide +kernel, by decide +kernel⟩
theorem b_f_compare : BindOk e_f_compare.d e_f_compare.df.pars := fun _ _ _ _ _ _ us hl => match us, hl with | [_, _, _], _ => rfl
theorem c_f_negation : chkSs gi (defCi e_f_negation.df e_f_negation.d.scope) e_f_negation.df.body e_f_negation.d.body = true := by decide +kernel
theorem s_f_negation : FnScope e_f_negation.df.names e_f_negation.df.pars e_f_negation.d.scope := ⟨rfl, rfl, rfl, by decide +kernel, rfl, by decide +kernel, by decide +kernel⟩
theorem b_f_negation : BindOk e_f_negation.d e_f_negation.df.pars := fun _ _ _ _ _ _ us hl => match us, hl with | [_], _ => rfl
theorem c_f_conjunction : chkSs gi (defCi e_f_conjunction.df e_f_conjunction.d.scope) e_f_conjunction.df.body e_f_conjunction.d.body = true := by decide +kernel
theorem s_f_conjunction : FnScope e_f_conjunction.df.names e_f_conjunction.df.pars e_f_conjunction.d.scope := ⟨rfl, rfl, rfl, by decide +kernel, rfl, by decide +kernel, by decide +kernel⟩
theorem b_f_conjunction : BindOk e_f_conjunction.d e_f_conjunction.df.pars := fun _ _ _ _ _ _ us hl => match us, hl with | [_, _], _ => rfl
theorem c_f_disjunction : chkSs gi (defCi e_f_disjunction.df e_f_disjunction.d.scope) e_f_disjunction.df.body e_f_disjunction.d.body = true := by decide +kernel
theorem s_f_disjunction : FnScope e_f_disjunction.df.names e_f_disjunction.df.pars e_f_disjunction.d.scope := ⟨rfl, rfl, rfl, by decide +kernel, rfl, by decide +kernel, by decide +kernel⟩
theorem b_f_disjunction : BindOk e_f_disjunction.d e_f_disjunction.df.pars := fun _ _ _ _ _ _ us hl => match us, hl with | [_, _], _ => rfl
theorem c_f_value_of : chkSs gi (defCi e_f_value_of.df e_f_value_of.d.scope) e_f_value_of.df.body e_f_value_of.d.body = true := by decide +kernel
theorem s_f_value_of : FnScope e_f_value_of.df.names e_f_value_of.df.pars e_f_value_of.d.scope := ⟨rfl, rfl, rfl, by decide +kernel, rfl, by decide +kernel, by decide +kernel⟩
theorem b_f_value_of : BindOk e_f_value_of.d e_f_value_of.df.pars := fun _ _ _ _ _ _ us hl => match us, hl with | [_, _, _], _ => rfl
theorem c_f_combined : chkSs gi (defCi e_f_combined.df e_f_combined.d.scope) e_f_combined.df.body e_f_combined.d.body = true := by decide +kernel
theorem s_f_combined : FnScope e_f_combined.df.names e_f_combined.df.pars e_f_combined.d.scope := ⟨rfl, rfl, rfl, by decide +kernel, rfl, by decide +kernel, by decide +kernel⟩
theorem b_f_combined : BindOk e_f_combined.d e_f_combined.df.pars := fun _ _ _ _ _ _ us hl => match us, hl with | [_, _, _], _ => rfl
theorem c_f_membership : chkSs gi (defCi e_f_membership.df e_f_membership.d.scope) e_f_membership.df.body e_f_membership.d.body = true := by decide +kernel
theorem s_f_membership : FnScope e_f_membership.df.names e_f_membership.df.pars e_f_membership.d.scope := ⟨rfl, rfl, rfl, by decide +kernel, rfl, by decide +kernel, by decide +kernel⟩
theorem b_f_membership : BindOk e_f_membership.d e_f_membership.df.pars := fun _ _ _ _ _ _ us hl => match us, hl with | [_, _, _], _ => rfl
theorem c_f_is_among : chkSs gi (defCi e_f_is_among.df e_f_is_among.d.scope) e_f_is_among.df.body e_f_is_among.d.body = true := by decide +kernel
theorem s_f_is_among : FnScope e_f_is_among.df.names e_f_is_among.df.pars e_f_is_among.d.scope := ⟨rfl, rfl, rfl, by decide +kernel, rfl, by decide +kernel, by decide +kernel⟩
theorem b_f_is_among : BindOk e_f_is_among.d e_f_is_among.df.pars := fun _ _ _ _ _ _ us hl => match us, hl with | [_, _], _ => rfl
theorem c_f_aggregate : chkSs gi (defCi e_f_aggregate.df e_f_aggregate.d.scope) e_f_aggregate.df.body e_f_aggregate.d.body = true := by decide +kernel
theorem s_f_aggregate : FnScope e_f_aggregate.df.names e_f_aggregate.df.pars e_f_aggregate.d.scope := ⟨rfl, rfl, rfl, by decide +kernel, rfl, by decide +kernel, by decide +kernel⟩
theorem b_f_aggregate : BindOk e_f_aggregate.d e_f_aggregate.df.pars := fun _ _ _ _ _ _ us hl => match us, hl with | [_, _, _], _ => rfl
theorem c_f_kept_frames : chkSs gi (defCi e_f_kept_frames.df e_f_kept_frames.d.scope) e_f_kept_frames.df.body e_f_kept_frames.d.body = true := by decide +kernel
theorem s_f_kept_frames : FnScope e_f_kept_frames.df.names e_f_kept_frames.df.pars e_f_kept_frames.d.scope := ⟨rfl, rfl, rfl, by decide +kernel, rfl, by decide +kernel, by decide +kernel⟩
theorem b_f_kept_frames : BindOk e_f_kept_frames.d e_f_kept_frames.df.pars := fun _ _ _ _ _ _ us hl => match us, hl with | [_, _, _], _ => rfl
theorem c_f_without_repeats : chkSs gi (defCi e_f_without_repeats.df e_f_without_repeats.d.scope) e_f_without_repeats.df.body e_f_without_repeats.d.body = true := by decide +kernel
theorem s_f_without_repeats : FnScope e_f_without_repeats.df.names e_f_without_repeats.df.pars e_f_without_repeats.d.scope := ⟨rfl, rfl, rfl, by decide +kernel, rfl, by decide +kernel, by decide +kernel⟩
theorem b_f_without_repeats : BindOk e_f_without_repeats.d e_f_without_repeats.df.pars := fun _ _ _ _ _ _ us hl => match us, hl with | [_], _ => rfl
theorem c_f_table_result : chkSs gi (defCi e_f_table_result.df e_f_table_result.d.scope) e_f_table_result.df.body e_f_table_result.d.body = true := by decide +kernel
theorem s_f_table_result : FnScope e_f_table_result.df.names e_f_table_result.df.pars e_f_table_result.d.scope := ⟨rfl, rfl, rfl, by decide +kernel, rfl, by decide +kernel, by decide +kernel⟩
theorem b_f_table_result : BindOk e_f_table_result.d e_f_table_result.df.pars := fun _ _ _ _ _ _ us hl => match us, hl with | [_, _], _ => rfl
theorem c_f_source_result : chkSs gi (defCi e_f_source_result.df e_f_source_result.d.scope) e_f_source_result.df.body e_f_source_result.d.body = true := by decide +kernel
theorem s_f_source_result : FnScope e_f_source_result.df.names e_f_source_result.df.pars e_f_source_result.d.scope := ⟨rfl, rfl, rfl, by decide +kernel, rfl, by decide +kernel, by decide +kernel⟩
theorem b_f_source_result : BindOk e_f_source_result.d e_f_source_result.df.pars := fun _ _ _ _ _ _ us hl => match us, hl with | [_, _, _], _ => rfl
theorem c_f_grouped_frames : chkSs gi (defCi e_f_grouped_frames.df e_f_grouped_frames.d.scope) e_f_grouped_frames.df.body e_f_grouped_frames.d.body = true := by decide +kernel
theorem s_f_grouped_frames : FnScope e_f_grouped_frames.df.names e_f_grouped_frames.df.pars e_f_grouped_frames.d.scope := ⟨rfl, rfl, rfl, by decide +kernel, rfl, by decide +kernel, by decide +kernel⟩
theorem b_f_grouped_frames : BindOk e_f_grouped_frames.d e_f_grouped_frames.df.pars := fun _ _ _ _ _ _ us hl => match us, hl with | [_, _, _, _], _ => rfl
theorem c_f_select_result : chkSs gi (defCi e_f_select_result.df e_f_select_result.d.scope) e_f_select_result.df.body e_f_select_result.d.body = true := by decide +kernel
theorem s_f_select_result : FnScope e_f_select_result.df.names e_f_select_result.df.pars e_f_select_result.d.scope := ⟨rfl, rfl, rfl, by decide +kernel, rfl, by decide +kernel, by decide +kernel⟩
theorem b_f_select_result : BindOk e_f_select_result.d e_f_select_result.df.pars := fun _ _ _ _ _ _ us hl => match us, hl with | [_, _, _], _ => rfl
theorem c_f_made_row : chkSs gi (defCi e_f_made_row.df e_f_made_row.d.scope) e_f_made_row.df.body e_f_made_row.d.body = true := by decide +kernel
theorem s_f_made_row : FnScope e_f_made_row.df.names e_f_made_row.df.pars e_f_made_row.d.scope := ⟨rfl, rfl, rfl, by decide +kernel, rfl, by decide +kernel, by decide +kernel⟩
theorem b_f_made_row : BindOk e_f_made_row.d e_f_made_row.df.pars := fun _ _ _ _ _ _ us hl => match us, hl with | [_, _, _], _ => rfl
theorem c_f_result_of : chkSs gi (defCi e_f_result_of.df e_f_result_of.d.scope) e_f_result_of.df.body e_f_result_of.d.body = true := by decide +kernel
theorem s_f_result_of : FnScope e_f_result_of.df.names e_f_result_of.df.pars e_f_result_of.d.scope := ⟨rfl, rfl, rfl, by decide +kernel, rfl, by decide +kernel, by decide +kernel⟩
theorem b_f_result_of : BindOk e_f_result_of.d e_f_result_of.df.pars := fun _ _ _ _ _ _ us hl => match us, hl with | [_, _, _], _ => rfl
theorem c_f_below : chkSs gi (defCi e_f_below.df e_f_below.d.scope) e_f_below.df.body e_f_below.d.body = true := by decide +kernel
theorem s_f_below : FnScope e_f_below.df.names e_f_below.df.pars e_f_below.d.scope := ⟨rfl, rfl, rfl, by decide +kernel, rfl, by decide +kernel, by decide +kernel⟩
theorem b_f_below : BindOk e_f_below.d e_f_below.df.pars := fun _ _ _ _ _ _ us hl => match us, hl with | [_], _ => rfl
theorem c_f_is_plan : chkSs gi (defCi e_f_is_plan.df e_f_is_plan.d.scope) e_f_is_plan.df.body e_f_is_plan.d.body = true := by decide +kernel
theorem s_f_is_plan : FnScope e_f_is_plan.df.names e_f_is_plan.df.pars e_f_is_plan.d.scope := ⟨rfl, rfl, rfl, by decide +kernel, rfl, by decide +kernel, by decide +kernel⟩
theorem b_f_is_plan : BindOk e_f_is_plan.d e_f_is_plan.df.pars := fun _ _ _ _ _ _ us hl => match us, hl with | [_], _ => rfl
theorem c_f_width : chkSs gi (defCi e_f_width.df e_f_width.d.scope) e_f_width.df.body e_f_width.d.body = true := by decide +kernel
theorem s_f_width : FnScope e_f_width.df.names e_f_width.df.pars e_f_width.d.scope := ⟨rfl, rfl, rfl, by decide +kernel, rfl, by decide +kernel, by decide +kernel⟩
theorem b_f_width : BindOk e_f_width.d e_f_width.df.pars := fun _ _ _ _ _ _ us hl => match us, hl with | [_, _], _ => rfl
theorem c_f_run : chkSs gi (defCi e_f_run.df e_f_run.d.scope) e_f_run.df.body e_f_run.d.body = true := by decide +kernel
theorem s_f_run : FnScope e_f_run.df.names e_f_run.df.pars e_f_run.d.scope := ⟨rfl, rfl, rfl, by decide +kernel, rfl, by decide +kernel, by decide +kernel⟩
theorem b_f_run : BindOk e_f_run.d e_f_run.df.pars := fun _ _ _ _ _ _ us hl => match us, hl with | [_, _, _], _ => rfl
theorem c_fUlaw_next : chkSs gi (defCi e_fUlaw_next.df e_fUlaw_next.d.scope) e_fUlaw_next.df.body e_fUlaw_next.d.body = true := by decide +kernel
theorem s_fUlaw_next : FnScope e_fUlaw_next.df.names e_fUlaw_next.df.pars e_fUlaw_next.d.scope := ⟨rfl, rfl, rfl, by decide +kernel, rfl, by decide +kernel, by decide +kernel⟩
theorem b_fUlaw_next : BindOk e_fUlaw_next.d e_fUlaw_next.df.pars := fun _ _ _ _ _ _ us hl => match us, hl with | [_, _], _ => rfl
theorem c_fUlaw_same : chkSs gi (defCi e_fUlaw_same.df e_fUlaw_same.d.scope) e_fUlaw_same.df.body e_fUlaw_same.d.body = true := by decide +kernel
theorem s_fUlaw_same : FnScope e_fUlaw_same.df.names e_fUlaw_same.df.pars e_fUlaw_same.d.scope := ⟨rfl, rfl, rfl, by decide +kernel, rfl, by decide +kernel, by decide +kernel⟩
theorem b_fUlaw_same : BindOk e_fUlaw_same.d e_fUlaw_same.df.pars := fun _ _ _ _ _ _ us hl => match us, hl with | [_, _], _ => rfl
theorem c_fUlaw_source : chkSs gi (defCi e_fUlaw_source.df e_fUlaw_source.d.scope) e_fUlaw_source.df.body e_fUlaw_source.d.body = true := by decide +kernel
theorem s_fUlaw_source : FnScope e_fUlaw_source.df.names e_fUlaw_source.df.pars e_fUlaw_source.d.scope := ⟨rfl, rfl, rfl, by decide +kernel, rfl, by decide +kernel, by decide +kernel⟩
theorem b_fUlaw_source : BindOk e_fUlaw_source.d e_fUlaw_source.df.pars := fun _ _ _ _ _ _ us hl => match us, hl with | [_, _], _ => rfl
theorem c_fUlaw_counts : chkSs gi (defCi e_fUlaw_counts.df e_fUlaw_counts.d.scope) e_fUlaw_counts.df.body e_fUlaw_counts.d.body = true := by decide +kernel
theorem s_fUlaw_counts : FnScope e_fUlaw_counts.df.names e_fUlaw_counts.df.pars e_fUlaw_counts.d.scope := ⟨rfl, rfl, rfl, by decide +kernel, rfl, by decide +kernel, by decide +kernel⟩
theorem b_fUlaw_counts : BindOk e_fUlaw_counts.d e_fUlaw_counts.df.pars := fun _ _ _ _ _ _ us hl => match us, hl with | [_], _ => rfl
theorem c_fUlaw_column : chkSs gi (defCi e_fUlaw_column.df e_fUlaw_column.d.scope) e_fUlaw_column.df.body e_fUlaw_column.d.body = true := by decide +kernel
theorem s_fUlaw_column : FnScope e_fUlaw_column.df.names e_fUlaw_column.df.pars e_fUlaw_column.d.scope := ⟨rfl, rfl, rfl, by decide +kernel, rfl, by decide +kernel, by decide +kernel⟩
theorem b_fUlaw_column : BindOk e_fUlaw_column.d e_fUlaw_column.df.pars := fun _ _ _ _ _ _ us hl => match us, hl with | [_], _ => rfl
theorem c_fUlaw_drawn : chkSs gi (defCi e_fUlaw_drawn.df e_fUlaw_drawn.d.scope) e_fUlaw_drawn.df.body e_fUlaw_drawn.d.body = true := by decide +kernel
theorem s_fUlaw_drawn : FnScope e_fUlaw_drawn.df.names e_fUlaw_drawn.df.pars e_fUlaw_drawn.d.scope := ⟨rfl, rfl, rfl, by decide +kernel, rfl, by decide +kernel, by decide +kernel⟩
theorem b_fUlaw_drawn : BindOk e_fUlaw_drawn.d e_fUlaw_drawn.df.pars := fun _ _ _ _ _ _ us hl => match us, hl with | [_, _, _, _], _ => rfl
theorem c_fUlaw_made : chkSs gi (defCi e_fUlaw_made.df e_fUlaw_made.d.scope) e_fUlaw_made.df.body e_fUlaw_made.d.body = true := by decide +kernel
theorem s_fUlaw_made : FnScope e_fUlaw_made.df.names e_fUlaw_made.df.pars e_fUlaw_made.d.scope := ⟨rfl, rfl, rfl, by decide +kernel, rfl, by decide +kernel, by decide +kernel⟩
theorem b_fUlaw_made : BindOk e_fUlaw_made.d e_fUlaw_made.df.pars := fun _ _ _ _ _ _ us hl => match us, hl with | [_, _, _], _ => rfl
theorem c_fUlaw_right : chkSs gi (defCi e_fUlaw_right.df e_fUlaw_right.d.scope) e_fUlaw_right.df.body e_fUlaw_right.d.body = true := by decide +kernel
theorem s_fUlaw_right : FnScope e_fUlaw_right.df.names e_fUlaw_right.df.pars e_fUlaw_right.d.scope := ⟨rfl, rfl, rfl, by decide +kernel, rfl, by decide +kernel, by decide +kernel⟩
theorem b_fUlaw_right : BindOk e_fUlaw_right.d e_fUlaw_right.df.pars := fun _ _ _ _ _ _ us hl => match us, hl with | [_, _, _, _], _ => rfl
theorem c_f_law : chkSs gi (defCi e_f_law.df e_f_law.d.scope) e_f_law.df.body e_f_law.d.body = true := by decide +kernel
theorem s_f_law : FnScope e_f_law.df.names e_f_law.df.pars e_f_law.d.scope := ⟨rfl, rfl, rfl, by decide +kernel, rfl, by decide +kernel, by decide +kernel⟩
theorem b_f_law : BindOk e_f_law.d e_f_law.df.pars := fun _ _ _ _ _ _ us hl => match us, hl with | [_], _ => rfl
theorem c_m_WorldU_initU : chkSs gi (defCi e_m_WorldU_initU.df e_m_WorldU_initU.d.scope) e_m_WorldU_initU.df.body e_m_WorldU_initU.d.body = true := by decide +kernel
theorem s_m_WorldU_initU : FnScope e_m_WorldU_initU.df.names e_m_WorldU_initU.df.pars e_m_WorldU_initU.d.scope := ⟨rfl, rfl, rfl, by decide +kernel, rfl, by decide +kernel, by decide +kernel⟩
theorem b_m_WorldU_initU : BindOk e_m_WorldU_initU.d e_m_WorldU_initU.df.pars := fun _ _ _ _ _ _ us hl => match us, hl with | [_, _, _], _ => rfl
theorem c_m_FrameU_initU : chkSs gi (defCi e_m_FrameU_initU.df e_m_FrameU_initU.d.scope) e_m_FrameU_initU.df.body e_m_FrameU_initU.d.body = true := by decide +kernel
theorem s_m_FrameU_initU : FnScope e_m_FrameU_initU.df.names e_m_FrameU_initU.df.pars e_m_FrameU_initU.d.scope := ⟨rfl, rfl, rfl, by decide +kernel, rfl, by decide +kernel, by decide +kernel⟩
theorem b_m_FrameU_initU : BindOk e_m_FrameU_initU.d e_m_FrameU_initU.df.pars := fun _ _ _ _ _ _ us hl => match us, hl with | [_, _, _, _, _], _ => rfl
theorem c_m_RunnerU_initU : chkSs gi (defCi e_m_RunnerU_initU.df e_m_RunnerU_initU.d.scope) e_m_RunnerU_initU.df.body e_m_RunnerU_initU.d.body = true := by decide +kernel
theorem s_m_RunnerU_initU : FnScope e_m_RunnerU_initU.df.names e_m_RunnerU_initU.df.pars e_m_RunnerU_initU.d.scope := ⟨rfl, rfl, rfl, by decide +kernel, rfl, by decide +kernel, by decide +kernel⟩
theorem b_m_RunnerU_initU : BindOk e_m_RunnerU_initU.d e_m_RunnerU_initU.df.pars := fun _ _ _ _ _ _ us hl => match us, hl with | [_, _, _], _ => rfl
theorem c_m_Runner_value : chkSs gi (defCi e_m_Runner_value.df e_m_Runner_value.d.scope) e_m_Runner_value.df.body e_m_Runner_value.d.body = true := by decide +kernel
theorem s_m_Runner_value : FnScope e_m_Runner_value.df.names e_m_Runner_value.df.pars e_m_Runner_value.d.scope := ⟨rfl, rfl, rfl, by decide +kernel, rfl, by decide +kernel, by decide +kernel⟩
theorem b_m_Runner_value : BindOk e_m_Runner_value.d e_m_Runner_value.df.pars := fun _ _ _ _ _ _ us hl => match us, hl with | [_, _, _, _], _ => rfl
theorem c_m_Runner_holds : chkSs gi (defCi e_m_Runner_holds.df e_m_Runner_holds.d.scope) e_m_Runner_holds.df.body e_m_Runner_holds.d.body = true := by decide +kernel
theorem s_m_Runner_holds : FnScope e_m_Runner_holds.df.names e_m_Runner_holds.df.pars e_m_Runner_holds.d.scope := ⟨rfl, rfl, rfl, by decide +kernel, rfl, by decide +kernel, by decide +kernel⟩
theorem b_m_Runner_holds : BindOk e_m_Runner_holds.d e_m_Runner_holds.df.pars := fun _ _ _ _ _ _ us hl => match us, hl with | [_, _, _], _ => rfl
theorem c_m_Runner_rows : chkSs gi (defCi e_m_Runner_rows.df e_m_Runner_rows.d.scope) e_m_Runner_rows.df.body e_m_Runner_rows.d.body = true := by decide +kernel
theorem s_m_Runner_rows : FnScope e_m_Runner_rows.df.names e_m_Runner_rows.df.pars e_m_Runner_rows.d.scope := ⟨rfl, rfl, rfl, by decide +kernel, rfl, by decide +kernel, by decide +kernel⟩
theorem b_m_Runner_rows : BindOk e_m_Runner_rows.d e_m_Runner_rows.df.pars := fun _ _ _ _ _ _ us hl => match us, hl with | [_, _], _ => rfl
theorem c_m_Runner_made : chkSs gi (defCi e_m_Runner_made.df e_m_Runner_made.d.scope) e_m_Runner_made.df.body e_m_Runner_made.d.body = true := by decide +kernel
theorem s_m_Runner_made : FnScope e_m_Runner_made.df.names e_m_Runner_made.df.pars e_m_Runner_made.d.scope := ⟨rfl, rfl, rfl, by decide +kernel, rfl, by decide +kernel, by decide +kernel⟩
theorem b_m_Runner_made : BindOk e_m_Runner_made.d e_m_Runner_made.df.pars := fun _ _ _ _ _ _ us hl => match us, hl with | [_, _, _], _ => rfl
theorem c_m_Runner_joined : chkSs gi (defCi e_m_Runner_joined.df e_m_Runner_joined.d.scope) e_m_Runner_joined.df.body e_m_Runner_joined.d.body = true := by decide +kernel
theorem s_m_Runner_joined : FnScope e_m_Runner_joined.df.names e_m_Runner_joined.df.pars e_m_Runner_joined.d.scope := ⟨rfl, rfl, rfl, by decide +kernel, rfl, by decide +kernel, by decide +kernel⟩
theorem b_m_Runner_joined : BindOk e_m_Runner_joined.d e_m_Runner_joined.df.pars := fun _ _ _ _ _ _ us hl => match us, hl with | [_, _, _, _], _ => rfl
theorem c_m_Runner_meets : chkSs gi (defCi e_m_Runner_meets.df e_m_Runner_meets.d.scope) e_m_Runner_meets.df.body e_m_Runner_meets.d.body = true := by decide +kernel
theorem s_m_Runner_meets : FnScope e_m_Runner_meets.df.names e_m_Runner_meets.df.pars e_m_Runner_meets.d.scope := ⟨rfl, rfl, rfl, by decide +kernel, rfl, by decide +kernel, by decide +kernel⟩
theorem b_m_Runner_meets : BindOk e_m_Runner_meets.d e_m_Runner_meets.df.pars := fun _ _ _ _ _ _ us hl => match us, hl with | [_, _, _], _ => rfl
theorem c_m_Runner_outer : chkSs gi (defCi e_m_Runner_outer.df e_m_Runner_outer.d.scope) e_m_Runner_outer.df.body e_m_Runner_outer.d.body = true := by decide +kernel
theorem s_m_Runner_outer : FnScope e_m_Runner_outer.df.names e_m_Runner_outer.df.pars e_m_Runner_outer.d.scope := ⟨rfl, rfl, rfl, by decide +kernel, rfl, by decide +kernel, by decide +kernel⟩
theorem b_m_Runner_outer : BindOk e_m_Runner_outer.d e_m_Runner_outer.df.pars := fun _ _ _ _ _ _ us hl => match us, hl with | [_, _, _, _], _ => rfl
theorem c_m_Runner_groups : chkSs gi (defCi e_m_Runner_groups.df e_m_Runner_groups.d.scope) e_m_Runner_groups.df.body e_m_Runner_groups.d.body = true := by decide +kernel
theorem s_m_Runner_groups : FnScope e_m_Runner_groups.df.names e_m_Runner_groups.df.pars e_m_Runner_groups.d.scope := ⟨rfl, rfl, rfl, by decide +kernel, rfl, by decide +kernel, by decide +kernel⟩
theorem b_m_Runner_groups : BindOk e_m_Runner_groups.d e_m_Runner_groups.df.pars := fun _ _ _ _ _ _ us hl => match us, hl with | [_, _, _], _ => rfl
theorem c_m_SourceU_initU : chkSs gi (defCi e_m_SourceU_initU.df e_m_SourceU_initU.d.scope) e_m_SourceU_initU.df.body e_m_SourceU_initU.d.body = true := by decide +kernel
theorem s_m_SourceU_initU : FnScope e_m_SourceU_initU.df.names e_m_SourceU_initU.df.pars e_m_SourceU_initU.d.scope := ⟨rfl, rfl, rfl, by decide +kernel, rfl, by decide +kernel, by decide +kernel⟩
theorem b_m_SourceU_initU : BindOk e_m_SourceU_initU.d e_m_SourceU_initU.df.pars := fun _ _ _ _ _ _ us hl => match us, hl with | [_, _, _, _, _], _ => rfl
theorem fa_nil {P : Ev.Entry → Prop} : ∀ e ∈ ([] : List Ev.Entry), P e := by intro e h; cases h
theorem fa_cons {P : Ev.Entry → Prop} {a : Ev.Entry} {l : List Ev.Entry} (h : P a) (t : ∀ e ∈ l, P e) : ∀ e ∈ a :: l, P e := by
  intro e he
  rcases List.mem_cons.mp he with rfl | he
  · exact h
  · exact t e he
theorem fa_app {P : Ev.Entry → Prop} {l m : List Ev.Entry} (h : ∀ e ∈ l, P e) (t : ∀ e ∈ m, P e) : ∀ e ∈ l ++ m, P e := by
  intro e he
  rcases List.mem_append.mp he with he | he
  · exact h e he
  · exact t e he
abbrev P_chk (e : Ev.Entry) : Prop := chkSs gi (defCi e.df e.d.scope) e.df.body e.d.body = true
abbrev P_scp (e : Ev.Entry) : Prop := FnScope e.df.names e.df.pars e.d.scope
abbrev P_bnd (e : Ev.Entry) : Prop := BindOk e.d e.df.pars
abbrev P_dfl (e : Ev.Entry) : Prop := e.d.dfl = [] ∧ e.d.kwd = []
theorem chk0 : ∀ e ∈ es0, P_chk e := (fa_cons (P := P_chk) c_f_named (fa_cons (P := P_chk) c_f_locate (fa_cons (P := P_chk) c_f_own_index (fa_cons (P := P_chk) c_f_operands (fa_cons (P := P_chk) c_f_has_aggregate (fa_cons (P := P_chk) c_f_is_grouping (fa_cons (P := P_chk) c_f_item_name (fa_cons (P := P_chk) c_f_known_as (fa_cons (P := P_chk) c_f_value_key (fa_cons (P := P_chk) c_f_row_key (fa_cons (P := P_chk) c_f_same (fa_cons (P := P_chk) c_f_bounded fa_nil))))))))))))
theorem chk1 : ∀ e ∈ es1, P_chk e := (fa_cons (P := P_chk) c_f_quotient (fa_cons (P := P_chk) c_f_arithmetic (fa_cons (P := P_chk) c_f_compare (fa_cons (P := P_chk) c_f_negation (fa_cons (P := P_chk) c_f_conjunction (fa_cons (P := P_chk) c_f_disjunction (fa_cons (P := P_chk) c_f_value_of (fa_cons (P := P_chk) c_f_combined (fa_cons (P := P_chk) c_f_membership (fa_cons (P := P_chk) c_f_is_among (fa_cons (P := P_chk) c_f_aggregate (fa_cons (P := P_chk) c_f_kept_frames fa_nil))))))))))))
theorem chk2 : ∀ e ∈ es2, P_chk e := (fa_cons (P := P_chk) c_f_without_repeats (fa_cons (P := P_chk) c_f_table_result (fa_cons (P := P_chk) c_f_source_result (fa_cons (P := P_chk) c_f_grouped_frames (fa_cons (P := P_chk) c_f_select_result (fa_cons (P := P_chk) c_f_made_row (fa_cons (P := P_chk) c_f_result_of (fa_cons (P := P_chk) c_f_below (fa_cons (P := P_chk) c_f_is_plan (fa_cons (P := P_chk) c_f_width (fa_cons (P := P_chk) c_f_run (fa_cons (P := P_chk) c_fUlaw_next fa_nil))))))))))))
theorem chk3 : ∀ e ∈ es3, P_chk e := (fa_cons (P := P_chk) c_fUlaw_same (fa_cons (P := P_chk) c_fUlaw_source (fa_cons (P := P_chk) c_fUlaw_counts (fa_cons (P := P_chk) c_fUlaw_column (fa_cons (P := P_chk) c_fUlaw_drawn (fa_cons (P := P_chk) c_fUlaw_made (fa_cons (P := P_chk) c_fUlaw_right (fa_cons (P := P_chk) c_f_law (fa_cons (P := P_chk) c_m_WorldU_initU (fa_cons (P := P_chk) c_m_FrameU_initU (fa_cons (P := P_chk) c_m_RunnerU_initU (fa_cons (P := P_chk) c_m_Runner_value fa_nil))))))))))))
theorem chk4 : ∀ e ∈ es4, P_chk e := (fa_cons (P := P_chk) c_m_Runner_holds (fa_cons (P := P_chk) c_m_Runner_rows (fa_cons (P := P_chk) c_m_Runner_made (fa_cons (P := P_chk) c_m_Runner_joined (fa_cons (P := P_chk) c_m_Runner_meets (fa_cons (P := P_chk) c_m_Runner_outer (fa_cons (P := P_chk) c_m_Runner_groups (fa_cons (P := P_chk) c_m_SourceU_initU fa_nil))))))))
theorem all_chk : ∀ e ∈ es, P_chk e := (fa_app (P := P_chk) (fa_app (P := P_chk) (fa_app (P := P_chk) (fa_app (P := P_chk) chk0 chk1) chk2) chk3) chk4)
theorem scp0 : ∀ e ∈ es0, P_scp e := (fa_cons (P := P_scp) s_f_named (fa_cons (P := P_scp) s_f_locate (fa_cons (P := P_scp) s_f_own_index (fa_cons (P := P_scp) s_f_operands (fa_cons (P := P_scp) s_f_has_aggregate (fa_cons (P := P_scp) s_f_is_grouping (fa_cons (P := P_scp) s_f_item_name (fa_cons (P := P_scp) s_f_known_as (fa_cons (P := P_scp) s_f_value_key (fa_cons (P := P_scp) s_f_row_key (fa_cons (P := P_scp) s_f_same (fa_cons (P := P_scp) s_f_bounded fa_nil))))))))))))
theorem scp1 : ∀ e ∈ es1, P_scp e := (fa_cons (P := P_scp) s_f_quotient (fa_cons (P := P_scp) s_f_arithmetic (fa_cons (P := P_scp) s_f_compare (fa_cons (P := P_scp) s_f_negation (fa_cons (P := P_scp) s_f_conjunction (fa_cons (P := P_scp) s_f_disjunction (fa_cons (P := P_scp) s_f_value_of (fa_cons (P := P_scp) s_f_combined (fa_cons (P := P_scp) s_f_membership (fa_cons (P := P_scp) s_f_is_among (fa_cons (P := P_scp) s_f_aggregate (fa_cons (P := P_scp) s_f_kept_frames fa_nil))))))))))))
theorem scp2 : ∀ e ∈ es2, P_scp e := (fa_cons (P := P_scp) s_f_without_repeats (fa_cons (P := P_scp) s_f_table_result (fa_cons (P := P_scp) s_f_source_result (fa_cons (P := P_scp) s_f_grouped_frames (fa_cons (P := P_scp) s_f_select_result (fa_cons (P := P_scp) s_f_made_row (fa_cons (P := P_scp) s_f_result_of (fa_cons (P := P_scp) s_f_below (fa_cons (P := P_scp) s_f_is_plan (fa_cons (P := P_scp) s_f_width (fa_cons (P := P_scp) s_f_run (fa_cons (P := P_scp) s_fUlaw_next fa_nil))))))))))))
theorem scp3 : ∀ e ∈ es3, P_scp e := (fa_cons (P := P_scp) s_fUlaw_same (fa_cons (P := P_scp) s_fUlaw_source (fa_cons (P := P_scp) s_fUlaw_counts (fa_cons (P := P_scp) s_fUlaw_column (fa_cons (P := P_scp) s_fUlaw_drawn (fa_cons (P := P_scp) s_fUlaw_made (fa_cons (P := P_scp) s_fUlaw_right (fa_cons (P := P_scp) s_f_law (fa_cons (P := P_scp) s_m_WorldU_initU (fa_cons (P := P_scp) s_m_FrameU_initU (fa_cons (P := P_scp) s_m_RunnerU_initU (fa_cons (P := P_scp) s_m_Runner_value fa_nil))))))))))))
theorem scp4 : ∀ e ∈ es4, P_scp e := (fa_cons (P := P_scp) s_m_Runner_holds (fa_cons (P := P_scp) s_m_Runner_rows (fa_cons (P := P_scp) s_m_Runner_made (fa_cons (P := P_scp) s_m_Runner_joined (fa_cons (P := P_scp) s_m_Runner_meets (fa_cons (P := P_scp) s_m_Runner_outer (fa_cons (P := P_scp) s_m_Runner_groups (fa_cons (P := P_scp) s_m_SourceU_initU fa_nil))))))))
theorem all_scp : ∀ e ∈ es, P_scp e := (fa_app (P := P_scp) (fa_app (P := P_scp) (fa_app (P := P_scp) (fa_app (P := P_scp) scp0 scp1) scp2) scp3) scp4)
theorem bnd0 : ∀ e ∈ es0, P_bnd e := (fa_cons (P := P_bnd) b_f_named (fa_cons (P := P_bnd) b_f_locate (fa_cons (P := P_bnd) b_f_own_index (fa_cons (P := P_bnd) b_f_operands (fa_cons (P := P_bnd) b_f_has_aggregate (fa_cons (P := P_bnd) b_f_is_grouping (fa_cons (P := P_bnd) b_f_item_name (fa_cons (P := P_bnd) b_f_known_as (fa_cons (P := P_bnd) b_f_value_key (fa_cons (P := P_bnd) b_f_row_key (fa_cons (P := P_bnd) b_f_same (fa_cons (P := P_bnd) b_f_bounded fa_nil))))))))))))
theorem bnd1 : ∀ e ∈ es1, P_bnd e := (fa_cons (P := P_bnd) b_f_quotient (fa_cons (P := P_bnd) b_f_arithmetic (fa_cons (P := P_bnd) b_f_compare (fa_cons (P := P_bnd) b_f_negation (fa_cons (P := P_bnd) b_f_conjunction (fa_cons (P := P_bnd) b_f_disjunction (fa_cons (P := P_bnd) b_f_value_of (fa_cons (P := P_bnd) b_f_combined (fa_cons (P := P_bnd) b_f_membership (fa_cons (P := P_bnd) b_f_is_among (fa_cons (P := P_bnd) b_f_aggregate (fa_cons (P := P_bnd) b_f_kept_frames fa_nil))))))))))))
theorem bnd2 : ∀ e ∈ es2, P_bnd e := (fa_cons (P := P_bnd) b_f_without_repeats (fa_cons (P := P_bnd) b_f_table_result (fa_cons (P := P_bnd) b_f_source_result (fa_cons (P := P_bnd) b_f_grouped_frames (fa_cons (P := P_bnd) b_f_select_result (fa_cons (P := P_bnd) b_f_made_row (fa_cons (P := P_bnd) b_f_result_of (fa_cons (P := P_bnd) b_f_below (fa_cons (P := P_bnd) b_f_is_plan (fa_cons (P := P_bnd) b_f_width (fa_cons (P := P_bnd) b_f_run (fa_cons (P := P_bnd) b_fUlaw_next fa_nil))))))))))))
theorem bnd3 : ∀ e ∈ es3, P_bnd e := (fa_cons (P := P_bnd) b_fUlaw_same (fa_cons (P := P_bnd) b_fUlaw_source (fa_cons (P := P_bnd) b_fUlaw_counts (fa_cons (P := P_bnd) b_fUlaw_column (fa_cons (P := P_bnd) b_fUlaw_drawn (fa_cons (P := P_bnd) b_fUlaw_made (fa_cons (P := P_bnd) b_fUlaw_right (fa_cons (P := P_bnd) b_f_law (fa_cons (P := P_bnd) b_m_WorldU_initU (fa_cons (P := P_bnd) b_m_FrameU_initU (fa_cons (P := P_bnd) b_m_RunnerU_initU (fa_cons (P := P_bnd) b_m_Runner_value fa_nil))))))))))))
theorem bnd4 : ∀ e ∈ es4, P_bnd e := (fa_cons (P := P_bnd) b_m_Runner_holds (fa_cons (P := P_bnd) b_m_Runner_rows (fa_cons (P := P_bnd) b_m_Runner_made (fa_cons (P := P_bnd) b_m_Runner_joined (fa_cons (P := P_bnd) b_m_Runner_meets (fa_cons (P := P_bnd) b_m_Runner_outer (fa_cons (P := P_bnd) b_m_Runner_groups (fa_cons (P := P_bnd) b_m_SourceU_initU fa_nil))))))))
theorem all_bnd : ∀ e ∈ es, P_bnd e := (fa_app (P := P_bnd) (fa_app (P := P_bnd) (fa_app (P := P_bnd) (fa_app (P := P_bnd) bnd0 bnd1) bnd2) bnd3) bnd4)
theorem dfl0 : ∀ e ∈ es0, P_dfl e := (fa_cons (P := P_dfl) ⟨rfl, rfl⟩ (fa_cons (P := P_dfl) ⟨rfl, rfl⟩ (fa_cons (P := P_dfl) ⟨rfl, rfl⟩ (fa_cons (P := P_dfl) ⟨rfl, rfl⟩ (fa_cons (P := P_dfl) ⟨rfl, rfl⟩ (fa_cons (P := P_dfl) ⟨rfl, rfl⟩ (fa_cons (P := P_dfl) ⟨rfl, rfl⟩ (fa_cons (P := P_dfl) ⟨rfl, rfl⟩ (fa_cons (P := P_dfl) ⟨rfl, rfl⟩ (fa_cons (P := P_dfl) ⟨rfl, rfl⟩ (fa_cons (P := P_dfl) ⟨rfl, rfl⟩ (fa_cons (P := P_dfl) ⟨rfl, rfl⟩ fa_nil))))))))))))
theorem dfl1 : ∀ e ∈ es1, P_dfl e := (fa_cons (P := P_dfl) ⟨rfl, rfl⟩ (fa_cons (P := P_dfl) ⟨rfl, rfl⟩ (fa_cons (P := P_dfl) ⟨rfl, rfl⟩ (fa_cons (P := P_dfl) ⟨rfl, rfl⟩ (fa_cons (P := P_dfl) ⟨rfl, rfl⟩ (fa_cons (P := P_dfl) ⟨rfl, rfl⟩ (fa_cons (P := P_dfl) ⟨rfl, rfl⟩ (fa_cons (P := P_dfl) ⟨rfl, rfl⟩ (fa_cons (P := P_dfl) ⟨rfl, rfl⟩ (fa_cons (P := P_dfl) ⟨rfl, rfl⟩ (fa_cons (P := P_dfl) ⟨rfl, rfl⟩ (fa_cons (P := P_dfl) ⟨rfl, rfl⟩ fa_nil))))))))))))
theorem dfl2 : ∀ e ∈ es2, P_dfl e := (fa_cons (P := P_dfl) ⟨rfl, rfl⟩ (fa_cons (P := P_dfl) ⟨rfl, rfl⟩ (fa_cons (P := P_dfl) ⟨rfl, rfl⟩ (fa_cons (P := P_dfl) ⟨rfl, rfl⟩ (fa_cons (P := P_dfl) ⟨rfl, rfl⟩ (fa_cons (P := P_dfl) ⟨rfl, rfl⟩ (fa_cons (P := P_dfl) ⟨rfl, rfl⟩ (fa_cons (P := P_dfl) ⟨rfl, rfl⟩ (fa_cons (P := P_dfl) ⟨rfl, rfl⟩ (fa_cons (P := P_dfl) ⟨rfl, rfl⟩ (fa_cons (P := P_dfl) ⟨rfl, rfl⟩ (fa_cons (P := P_dfl) ⟨rfl, rfl⟩ fa_nil))))))))))))
theorem dfl3 : ∀ e ∈ es3, P_dfl e := (fa_cons (P := P_dfl) ⟨rfl, rfl⟩ (fa_cons (P := P_dfl) ⟨rfl, rfl⟩ (fa_cons (P := P_dfl) ⟨rfl, rfl⟩ (fa_cons (P := P_dfl) ⟨rfl, rfl⟩ (fa_cons (P := P_dfl) ⟨rfl, rfl⟩ (fa_cons (P := P_dfl) ⟨rfl, rfl⟩ (fa_cons (P := P_dfl) ⟨rfl, rfl⟩ (fa_cons (P := P_dfl) ⟨rfl, rfl⟩ (fa_cons (P := P_dfl) ⟨rfl, rfl⟩ (fa_cons (P := P_dfl) ⟨rfl, rfl⟩ (fa_cons (P := P_dfl) ⟨rfl, rfl⟩ (fa_cons (P := P_dfl) ⟨rfl, rfl⟩ fa_nil))))))))))))
theorem dfl4 : ∀ e ∈ es4, P_dfl e := (fa_cons (P := P_dfl) ⟨rfl, rfl⟩ (fa_cons (P := P_dfl) ⟨rfl, rfl⟩ (fa_cons (P := P_dfl) ⟨rfl, rfl⟩ (fa_cons (P := P_dfl) ⟨rfl, rfl⟩ (fa_cons (P := P_dfl) ⟨rfl, rfl⟩ (fa_cons (P := P_dfl) ⟨rfl, rfl⟩ (fa_cons (P := P_dfl) ⟨rfl, rfl⟩ (fa_cons (P := P_dfl) ⟨rfl, rfl⟩ fa_nil))))))))
theorem all_dfl : ∀ e ∈ es, P_dfl e := (fa_app (P := P_dfl) (fa_app (P := P_dfl) (fa_app (P := P_dfl) (fa_app (P := P_dfl) dfl0 dfl1) dfl2) dfl3) dfl4)
theorem po : ProgOk es gi := ⟨all_chk, all_scp, all_bnd, all_dfl, by decide +kernel, by decide +kernel, by decide +kernel⟩
theorem pg_eq : pgOf es exm = pg := rfl
end EK

set_option Elab.async false
set_option linter.all false
set_option maxRecDepth 100000
set_option maxHeartbeats 0
namespace EK
open PySem PySem.Spec PyProof.Rows L2 Ev PK
def names0 : List PySem.Str := ["KithwholeError", "QuestionError", "UnknownColumn", "AmbiguousColumn", "NoPlan", "World", "Frame", "named", "locate", "own_index", "operands", "has_aggregate", "is_grouping", "item_name", "known_as", "BOUND", "LONGEST_TEXT", "value_key", "row_key", "same"]
def names1 : List PySem.Str := ["bounded", "quotient", "arithmetic", "compare", "negation", "conjunction", "disjunction", "COMPARISONS", "value_of", "combined", "membership", "is_among", "aggregate", "kept_frames", "without_repeats", "table_result", "source_result", "grouped_frames", "select_result", "made_row"]
def names2 : List PySem.Str := ["result_of", "MOST_ROWS", "WORDS", "below", "is_plan", "width", "Runner", "run", "Source", "_law_next", "_law_same", "_law_source", "_law_counts", "_law_column", "_law_drawn", "_law_made", "_law_right"]
def names : List PySem.Str := names0 ++ names1 ++ names2
abbrev R : PySem.W.OpenRow := PySem.W.OpenLaw.row PySem.Challenge.rw_kithwhole_k99_steps_make_at_most_2000_ro
abbrev fa : List He.Fa := needFa es gi exm
abbrev fn : List He.DefD := es.map (·.d)
abbrev hk : PySem.W.Hook := He.hookX 5 fa fn [] [] (exB gi)
def ob (s : PySem.W.SharedT) : He.AlX := He.obsX 5 fa fn [] [] (exB gi) (HandSHeadRun.getT s)
theorem ob_eq (s : PySem.W.SharedT) : ob s = hk.obs s.abs := He.obsX_eq (HandSHeadRun.getT_eq s)
theorem run (w : World) : HandSHeadRun.RunEq R (PySem.W.view R.prog [65]) hk ob 4000 names w := by
  intro os
  kernel_rfl
/-- an exception is not let out: the frames are not looked at -/
abbrev CXN : CXT := fun _ _ _ _ _ _ => False
theorem none_out {P : Program} {w : World} {K : PySem.W.Frag} {mg : Str → Option Value} {base : Heap} {k : Nat} {f : Addr} {fd : FuncData} {ps : List Str} {sp : Sp} (F : FnOk P w K mg base (L2.CX P w) k f fd ps sp) :
    FnOk P w K mg base CXN k f fd ps (fun vs H Q _ => sp vs H Q fun _ _ _ => False) :=
  ⟨fun vs H Q E q => F.len vs H Q _ q, fun A outer s H args us vs Q E hr he hb hv hs => codeAny_mono (F.run A outer s H args us vs Q (fun _ _ _ => False) hr he hb hv hs) fun r s' q => by
    cases r with
    | ok fl => cases fl <;> exact q
    | error e =>
      obtain ⟨a, B, H', cls, d, _, _, _, _, _, _, _, hE⟩ := q
      exact hE.elim⟩
theorem law_mem : e_f_law ∈ es := by
  simp only [es, List.mem_append]
  simp [es0, es1, es2, es3, es4]
theorem law_fact : He.Fa.glo "law" ∈ needFa es gi exm := by
  have q : ("law" : Str) ∈ gi.fns := by decide +kernel
  have q2 : He.Fa.glo "law" ∈ gi.fns.map He.Fa.glo := List.mem_map_of_mem q
  simp only [needFa, List.mem_append]
  simp only [q2, true_or, or_true]
open PySem PySem.W PySem.Calls PyProof.Rows
/-- from the plain law to the row -/
theorem holds_of {N Wf : Nat} (hN : N ≤ 60) (plain : ∀ ns : List Int, ns.length ≤ 63 → ∃ h', (fnN (pgOf es exm) Wf N).run PySem.Str.empty "law" [.kl (ns.map .int)] [] = some (.ok (.bl true) h')) : PySem.Challenge.rw_kithwhole_k99_steps_make_at_most_2000_ro.Holds := by
  w_on; o_law
  refine HandSHeadRun.head_any (r := OpenLaw.row PySem.Challenge.rw_kithwhole_k99_steps_make_at_most_2000_ro) (q := view (OpenLaw.row PySem.Challenge.rw_kithwhole_k99_steps_make_at_most_2000_ro).prog [65]) (H := hk) (ob := ob) (M := 4000) (loose := names) (d := HandSHeadRun.topDef (OpenLaw.row PySem.Challenge.rw_kithwhole_k99_steps_make_at_most_2000_ro).prog 65) (kwd := []) ob_eq
    (by kernel_rfl) (fun s => by kernel_rfl) run (by kernel_rfl) (by kernel_rfl) (by kernel_rfl) (by rfl) (by first | assumption | decide +kernel) (by decide +kernel) ⟨rfl, rfl, rfl, rfl, rfl, by decide +kernel⟩ ?hw ?hc
  case hw => w_witness2
  case hc =>
    refine L2.walk_ofE (l := PySem.Challenge.rw_kithwhole_k99_steps_make_at_most_2000_ro) (n := 63) (k := 2 * N) (x := "script") (CX := CXN) rfl (by decide) (by kernel_rfl) (L2.Room.mono (j := 2 * N) (k := 120) ⟨rfl, by decide, by decide⟩ (by omega)) ?F (fun _ _ _ _ z => z)
    intro w mg fa h Y G hmg0
    obtain ⟨K, KX, c⟩ := Y
    have hmg : mg ("law" : PySem.Str) = some (.ref fa) := by
      have e : (HandSHeadRun.topDef (OpenLaw.row PySem.Challenge.rw_kithwhole_k99_steps_make_at_most_2000_ro).prog 65).name = ("law" : PySem.Str) := by kernel_rfl
      rw [← e]
      exact hmg0
    obtain ⟨fd, sp, hb, hsp, hF⟩ := law_ok (P := (PySem.Challenge.rw_kithwhole_k99_steps_make_at_most_2000_ro).prog) (w := w) (mg := mg) (Wf := Wf) po KX G c.t.d c.more N law_mem rfl rfl plain
    have hga := He.glo_ok (x := "law") KX G (He.SaysD.facts c.t.d law_fact)
    have ef := hga.symm.trans hmg
    cases ef
    exact ⟨K, fd, fun vs H Q _ => sp vs H Q fun _ _ _ => False, KX, hb, fun H a ns hl hO hS => hsp H a ns hl hO hS, fun base Kb Gb => none_out (hF base Kb Gb)⟩
end EK

set_option Elab.async false
set_option linter.all false
set_option maxRecDepth 100000
/-! the evaluator's equations, form by form (printed by eqs.py) -/
namespace Qe
open Ev
open PySem (Operator CmpOp Str sizeLine)
theorem qE_var {F : Fn} {i} {ρ : En} {h : Hb} : evE F (.var i) ρ h = (match getVar ρ i with
    | some d => some (.ok d h)
    | none => none) := by first | (rw [evE]; done) | (rw [evE]; rfl)
theorem qE_int {F : Fn} {i} {ρ : En} {h : Hb} : evE F (.int i) ρ h = (some (.ok (.int i) h)) := by first | (rw [evE]; done) | (rw [evE]; rfl)
theorem qE_bl {F : Fn} {b} {ρ : En} {h : Hb} : evE F (.bl b) ρ h = (some (.ok (.bl b) h)) := by first | (rw [evE]; done) | (rw [evE]; rfl)
theorem qE_non {F : Fn} {ρ : En} {h : Hb} : evE F .non ρ h = (some (.ok .non h)) := by first | (rw [evE]; done) | (rw [evE]; rfl)
theorem qE_str {F : Fn} {s} {ρ : En} {h : Hb} : evE F (.str s) ρ h = (some (.ok (.str s) h)) := by first | (rw [evE]; done) | (rw [evE]; rfl)
theorem qE_gint {F : Fn} {i z1} {ρ : En} {h : Hb} : evE F (.gint z1 i) ρ h = (some (.ok (.int i) h)) := by first | (rw [evE]; done) | (rw [evE]; rfl)
theorem qE_gtup {F : Fn} {ds z1} {ρ : En} {h : Hb} : evE F (.gtup z1 ds) ρ h = (some (.ok (.kt ds) h)) := by first | (rw [evE]; done) | (rw [evE]; rfl)
theorem qE_bin {F : Fn} {a b op} {ρ : En} {h : Hb} : evE F (.bin op a b) ρ h = (bnd (evE F a ρ h) fun x h1 => bnd (evE F b ρ h1) fun y h2 => nvRes (binD op h2 x y) h2) := by first | (rw [evE]; done) | (rw [evE]; rfl)
theorem qE_neg {F : Fn} {a} {ρ : En} {h : Hb} : evE F (.neg a) ρ h = (bnd (evE F a ρ h) fun x h1 => match x with
    | .int i => some (.ok (.int (-i)) h1)
    | _ => none) := by first | (rw [evE]; done) | (rw [evE]; rfl)
theorem qE_notv {F : Fn} {a} {ρ : En} {h : Hb} : evE F (.notv a) ρ h = (bnd (evE F a ρ h) fun x h1 => match x with
    | .bl b => some (.ok (.bl (!b)) h1)
    | _ => none) := by first | (rw [evE]; done) | (rw [evE]; rfl)
theorem qE_andv {F : Fn} {a b} {ρ : En} {h : Hb} : evE F (.andv a b) ρ h = (bnd (evE F a ρ h) fun x h1 => match x with
    | .bl true => evE F b ρ h1
    | .bl false => some (.ok (.bl false) h1)
    | _ => none) := by first | (rw [evE]; done) | (rw [evE]; rfl)
theorem qE_orv {F : Fn} {a b} {ρ : En} {h : Hb} : evE F (.orv a b) ρ h = (bnd (evE F a ρ h) fun x h1 => match x with
    | .bl true => some (.ok (.bl true) h1)
    | .bl false => evE F b ρ h1
    | _ => none) := by first | (rw [evE]; done) | (rw [evE]; rfl)
theorem qE_cmp {F : Fn} {a b op} {ρ : En} {h : Hb} : evE F (.cmp op a b) ρ h = (bnd (evE F a ρ h) fun x h1 => bnd (evE F b ρ h1) fun y h2 => match cmpD op h2 x y with
    | some c => some (.ok (.bl c) h2)
    | none => none) := by first | (rw [evE]; done) | (rw [evE]; rfl)
theorem qE_chain {F : Fn} {a b c op op'} {ρ : En} {h : Hb} : evE F (.chain op op' a b c) ρ h = (bnd (evE F a ρ h) fun x h1 => bnd (evE F b ρ h1) fun y h2 => match cmpD op h2 x y with
    | some true => bnd (evE F c ρ h2) fun z h3 => match cmpD op' h3 y z with
      | some c => some (.ok (.bl c) h3)
      | none => none
    | some false => some (.ok (.bl false) h2)
    | none => none) := by first | (rw [evE]; done) | (rw [evE]; rfl)
theorem qE_ite {F : Fn} {a b c} {ρ : En} {h : Hb} : evE F (.ite c a b) ρ h = (bnd (evT F c ρ h) fun t h1 => match t with
    | true => evE F a ρ h1
    | false => evE F b ρ h1) := by first | (rw [evE]; done) | (rw [evE]; rfl)
theorem qE_call {F : Fn} {es f} {ρ : En} {h : Hb} : evE F (.call f es) ρ h = (bnd (evL F es ρ h) fun ds h1 => F.run Str.empty f ds h1) := by first | (rw [evE]; done) | (rw [evE]; rfl)
theorem qE_make {F : Fn} {c es} {ρ : En} {h : Hb} : evE F (.make c es) ρ h = (bnd (evL F es ρ h) fun ds h1 => bnd (F.run c "__init__" (.ref h1.length :: ds) (h1 ++ [.ins c []])) fun v h2 => match v with
    | .non => some (.ok (.ref h1.length) h2)
    | _ => none) := by first | (rw [evE]; done) | (rw [evE]; rfl)
theorem qE_meth {F : Fn} {es m o} {ρ : En} {h : Hb} : evE F (.meth o m es) ρ h = (bnd (noX (evE F o ρ h)) fun x h1 => match x with
    | .ref n => match h1[n]? with
      | some (.ins c fs) => if (fs.lookup m).isNone ∧ F.has c m = true then bnd (evL F es ρ h1) fun ds h2 => F.run c m (x :: ds) h2 else none
      | _ => none
    | _ => none) := by first | (rw [evE]; done) | (rw [evE]; rfl)
theorem qE_blt {F : Fn} {es f} {ρ : En} {h : Hb} : evE F (.blt f es) ρ h = (bnd (evL F es ρ h) fun ds h1 => nvRes (bltD f h1 ds) h1) := by first | (rw [evE]; done) | (rw [evE]; rfl)
theorem qE_isin {F : Fn} {a ts z1} {ρ : En} {h : Hb} : evE F (.isin a ts z1) ρ h = (bnd (evE F a ρ h) fun x h1 => match isAny h1 x ts with
    | some b => some (.ok (.bl b) h1)
    | none => none) := by first | (rw [evE]; done) | (rw [evE]; rfl)
theorem qE_bm {F : Fn} {es m o} {ρ : En} {h : Hb} : evE F (.bm m o es) ρ h = (bnd (evE F o ρ h) fun x h1 => if bmT m h1 x then bnd (evL F es ρ h1) fun ds h2 => match bmD m h2 x ds with
    | some (d, h3) => some (.ok d h3)
    | none => none
    else none) := by first | (rw [evE]; done) | (rw [evE]; rfl)
theorem qE_fld {F : Fn} {f o} {ρ : En} {h : Hb} : evE F (.fld o f) ρ h = (bnd (evE F o ρ h) fun x h1 => match x with
    | .ref n => match h1[n]? with
      | some (.ins _ fs) => match fs.lookup f with
        | some d => some (.ok d h1)
        | none => none
      | _ => none
    | _ => none) := by first | (rw [evE]; done) | (rw [evE]; rfl)
theorem qE_idx {F : Fn} {i o} {ρ : En} {h : Hb} : evE F (.idx o i) ρ h = (bnd (evE F o ρ h) fun x h1 => bnd (evE F i ρ h1) fun y h2 => match idxD h2 x y with
    | some d => some (.ok d h2)
    | none => none) := by first | (rw [evE]; done) | (rw [evE]; rfl)
theorem qE_slc {F : Fn} {hi lo o} {ρ : En} {h : Hb} : evE F (.slc o lo hi) ρ h = (bnd (evE F o ρ h) fun x h1 => bnd (evO F lo ρ h1) fun l h2 => bnd (evO F hi ρ h2) fun u h3 => nvRes (slcD h3 x l u) h3) := by first | (rw [evE]; done) | (rw [evE]; rfl)
theorem qE_tup {F : Fn} {es} {ρ : En} {h : Hb} : evE F (.tup es) ρ h = (bnd (evL F es ρ h) fun ds h1 => if ds.length ≤ sizeLine then some (.ok (.tup ds) h1) else none) := by first | (rw [evE]; done) | (rw [evE]; rfl)
theorem qE_lst {F : Fn} {es} {ρ : En} {h : Hb} : evE F (.lst es) ρ h = (bnd (evL F es ρ h) fun ds h1 => if ds.length ≤ sizeLine then newList ds h1 else none) := by first | (rw [evE]; done) | (rw [evE]; rfl)
theorem qE_dnewT {F : Fn} {ρ : En} {h : Hb} : evE F .dnewT ρ h = (some (.ok (.ref h.length) (h ++ [.dt []]))) := by first | (rw [evE]; done) | (rw [evE]; rfl)
theorem qE_dnewK {F : Fn} {ρ : En} {h : Hb} : evE F .dnewK ρ h = (some (.ok (.ref h.length) (h ++ [.dk []]))) := by first | (rw [evE]; done) | (rw [evE]; rfl)
theorem qE_disp {F : Fn} {es ks} {ρ : En} {h : Hb} : evE F (.disp ks es) ρ h = (bnd (evL F es ρ h) fun ds h1 =>
      if ks.length = ds.length ∧ ks.length ≤ 15 ∧ ks.Nodup then some (.ok (.ref h1.length) (h1 ++ [.dk ((ks.map Sum.inr).zip ds)])) else none) := by first | (rw [evE]; done) | (rw [evE]; rfl)
theorem qE_lvals {F : Fn} {i} {ρ : En} {h : Hb} : evE F (.lvals i) ρ h = (match getVar ρ i with
    | some (.ref n) => match h[n]? with
      | some (.dt kvs) => newList (kvs.map (·.2)) h
      | _ => none
    | _ => none) := by first | (rw [evE]; done) | (rw [evE]; rfl)
theorem qE_comp {F : Fn} {c e g it x} {ρ : En} {h : Hb} : evE F (.comp x g it c e) ρ h = (bnd (evI F it ρ h) fun J h1 =>
      bnd (okX x (compLoop J g (evT F c) (evE F e) (wipe ρ g.slots) (J.size h1 + 1) 0 [] h1)) fun ds h2 => newList ds h2) := by first | (rw [evE]; done) | (rw [evE]; rfl)
theorem qE_comp2 {F : Fn} {c e g g2 it it2} {ρ : En} {h : Hb} : evE F (.comp2 g it g2 it2 c e) ρ h = (bnd (evI F it ρ h) fun J h1 =>
      bnd (noX (compLoop2 J g (fun ρ' acc h' => bnd (evI F it2 ρ' h') fun J2 h2 => compLoop J2 g2 (evT F c) (evE F e) (wipe ρ' g2.slots) (J2.size h2 + 1) 0 acc h2)
        (wipe ρ (g2.slots ++ g.slots)) (J.size h1 + 1) 0 [] h1)) fun ds h2 => newList ds h2) := by first | (rw [evE]; done) | (rw [evE]; rfl)
theorem qE_bad {F : Fn} {ρ : En} {h : Hb} : evE F .bad ρ h = (none) := by first | (rw [evE]; done) | (rw [evE]; rfl)
theorem qL_nil {F : Fn} {ρ : En} {h : Hb} : evL F .nil ρ h = (some (.ok [] h)) := by first | (rw [evL]; done) | (rw [evL]; rfl)
theorem qL_cons {F : Fn} {e es} {ρ : En} {h : Hb} : evL F (.cons e es) ρ h = (bnd (evE F e ρ h) fun d h1 => bnd (evL F es ρ h1) fun ds h2 => some (.ok (d :: ds) h2)) := by first | (rw [evL]; done) | (rw [evL]; rfl)
theorem qO_none {F : Fn} {ρ : En} {h : Hb} : evO F .none ρ h = (some (.ok none h)) := by first | (rw [evO]; done) | (rw [evO]; rfl)
theorem qO_some {F : Fn} {e} {ρ : En} {h : Hb} : evO F (.some e) ρ h = (bnd (evE F e ρ h) fun d h1 => match d with
    | .int i => some (.ok (some i) h1)
    | _ => none) := by first | (rw [evO]; done) | (rw [evO]; rfl)
theorem qT_and {F : Fn} {a b} {ρ : En} {h : Hb} : evT F (.and a b) ρ h = (bnd (evT F a ρ h) fun x h1 => match x with
    | true => evT F b ρ h1
    | false => some (.ok false h1)) := by first | (rw [evT]; done) | (rw [evT]; rfl)
theorem qT_or {F : Fn} {a b} {ρ : En} {h : Hb} : evT F (.or a b) ρ h = (bnd (evT F a ρ h) fun x h1 => match x with
    | true => some (.ok true h1)
    | false => evT F b ρ h1) := by first | (rw [evT]; done) | (rw [evT]; rfl)
theorem qT_not {F : Fn} {a} {ρ : En} {h : Hb} : evT F (.not a) ρ h = (bnd (evT F a ρ h) fun x h1 => some (.ok (!x) h1)) := by first | (rw [evT]; done) | (rw [evT]; rfl)
theorem qT_ex {F : Fn} {e} {ρ : En} {h : Hb} : evT F (.ex e) ρ h = (bnd (evE F e ρ h) fun d h1 => match tru h1 d with
    | some b => some (.ok b h1)
    | none => none) := by first | (rw [evT]; done) | (rw [evT]; rfl)
theorem qT_cmp {F : Fn} {a b op} {ρ : En} {h : Hb} : evT F (.cmp op a b) ρ h = (bnd (evE F a ρ h) fun x h1 => bnd (evE F b ρ h1) fun y h2 => match cmpD op h2 x y with
    | some c => some (.ok c h2)
    | none => none) := by first | (rw [evT]; done) | (rw [evT]; rfl)
theorem qT_yes {F : Fn} {ρ : En} {h : Hb} : evT F .yes ρ h = (some (.ok true h)) := by first | (rw [evT]; done) | (rw [evT]; rfl)
theorem qI_val {F : Fn} {e} {ρ : En} {h : Hb} : evI F (.val e) ρ h = (bnd (evE F e ρ h) fun d h1 => match d with
    | .tup ds => some (.ok (.tup ds) h1)
    | .kt ds => some (.ok (.tup ds) h1)
    | .ref n => if (items h1 n).isSome then some (.ok (.lst n) h1) else none
    | _ => none) := by first | (rw [evI]; done) | (rw [evI]; rfl)
theorem qI_rng {F : Fn} {a b} {ρ : En} {h : Hb} : evI F (.rng a b) ρ h = (bnd (evE F a ρ h) fun x h1 => bnd (evE F b ρ h1) fun y h2 => match x, y with
    | .int i, .int j => if fits62 i = true ∧ fits62 j = true then some (.ok (.rng i (j - i).toNat) h2) else none
    | _, _ => none) := by first | (rw [evI]; done) | (rw [evI]; rfl)
theorem qI_rng1 {F : Fn} {a} {ρ : En} {h : Hb} : evI F (.rng1 a) ρ h = (bnd (evE F a ρ h) fun x h1 => match x with
    | .int j => if fits62 j = true then some (.ok (.rng 0 j.toNat) h1) else none
    | _ => none) := by first | (rw [evI]; done) | (rw [evI]; rfl)
theorem qI_enum {F : Fn} {e} {ρ : En} {h : Hb} : evI F (.enum e) ρ h = (bnd (evE F e ρ h) fun d h1 => match d with
    | .ref n => if (items h1 n).isSome then some (.ok (.enum n) h1) else none
    | _ => none) := by first | (rw [evI]; done) | (rw [evI]; rfl)
theorem qI_zip {F : Fn} {a b} {ρ : En} {h : Hb} : evI F (.zip a b) ρ h = (bnd (evE F a ρ h) fun x h1 => bnd (evE F b ρ h1) fun y h2 => match x, y with
    | .ref n, .ref m => if (items h2 n).isSome && (items h2 m).isSome then some (.ok (.zip n m) h2) else none
    | _, _ => none) := by first | (rw [evI]; done) | (rw [evI]; rfl)
theorem qS_expr {F : Fn} {U : Above} {Wf : Nat} {e} {ρ : En} {h : Hb} : evS F U Wf (.expr e) ρ h = (sB ρ (evE F e ρ h) fun _ h1 => some (.nx ρ h1)) := by first | (rw [evS]; done) | (rw [evS]; rfl)
theorem qS_ret {F : Fn} {U : Above} {Wf : Nat} {e} {ρ : En} {h : Hb} : evS F U Wf (.ret e) ρ h = (sB ρ (evE F e ρ h) fun d h1 => some (.ret d h1)) := by first | (rw [evS]; done) | (rw [evS]; rfl)
theorem qS_retN {F : Fn} {U : Above} {Wf : Nat} {ρ : En} {h : Hb} : evS F U Wf .retN ρ h = (some (.ret .non h)) := by first | (rw [evS]; done) | (rw [evS]; rfl)
theorem qS_asg_tg {F : Fn} {U : Above} {Wf : Nat} {e g} {ρ : En} {h : Hb} : evS F U Wf (.asg (.tg g) e) ρ h = (sB ρ (evE F e ρ h) fun d h1 => match bindTg ρ g d with
    | some ρ' => some (.nx ρ' h1)
    | none => none) := by first | (rw [evS]; done) | (rw [evS]; rfl)
theorem qS_asg_fld {F : Fn} {U : Above} {Wf : Nat} {c e f o} {ρ : En} {h : Hb} : evS F U Wf (.asg (.fld o c f) e) ρ h = (sB ρ (evE F e ρ h) fun d h1 => sB ρ (evE F o ρ h1) fun x h2 => match putFld h2 x c f d with
    | some h3 => some (.nx ρ h3)
    | none => none) := by first | (rw [evS]; done) | (rw [evS]; rfl)
theorem qS_asg_sub {F : Fn} {U : Above} {Wf : Nat} {e i o} {ρ : En} {h : Hb} : evS F U Wf (.asg (.sub o i) e) ρ h = (sB ρ (evE F e ρ h) fun d h1 => sB ρ (evE F o ρ h1) fun x h2 => sB ρ (evE F i ρ h2) fun y h3 => match putSub h3 x y d with
    | some h4 => some (.nx ρ h4)
    | none => none) := by first | (rw [evS]; done) | (rw [evS]; rfl)
theorem qS_par {F : Fn} {U : Above} {Wf : Nat} {a b i j} {ρ : En} {h : Hb} : evS F U Wf (.par i j a b) ρ h = (sB ρ (evE F a ρ h) fun x h1 => sB ρ (evE F b ρ h1) fun y h2 => some (.nx (setVar (setVar ρ i x) j y) h2)) := by first | (rw [evS]; done) | (rw [evS]; rfl)
theorem qS_aug {F : Fn} {U : Above} {Wf : Nat} {e i op} {ρ : En} {h : Hb} : evS F U Wf (.aug i op e) ρ h = (match getVar ρ i with
    | none => none
    | some x => sB ρ (evE F e ρ h) fun y h1 => match augD op x y with
      | some z => some (.nx (setVar ρ i z) h1)
      | none => none) := by first | (rw [evS]; done) | (rw [evS]; rfl)
theorem qS_augF {F : Fn} {U : Above} {Wf : Nat} {c e f o op} {ρ : En} {h : Hb} : evS F U Wf (.augF o c f op e) ρ h = (sB ρ (evE F o ρ h) fun x h1 => match x with
    | .ref n => match h1[n]? with
      | some (.ins _ fs) => match fs.lookup f with
        | none => none
        | some v => sB ρ (evE F e ρ h1) fun y h2 => match augD op v y with
          | some z => match putFld h2 x c f z with
            | some h3 => some (.nx ρ h3)
            | none => none
          | none => none
      | _ => none
    | _ => none) := by first | (rw [evS]; done) | (rw [evS]; rfl)
theorem qS_augS {F : Fn} {U : Above} {Wf : Nat} {e i o op} {ρ : En} {h : Hb} : evS F U Wf (.augS o i op e) ρ h = (sB ρ (evE F o ρ h) fun x h1 => sB ρ (evE F i ρ h1) fun y h2 => match (if nonNegIx x y then idxD h2 x y else none) with
    | none => none
    | some v => sB ρ (evE F e ρ h2) fun w h3 => match augD op v w with
      | some z => match putSub h3 x y z with
        | some h4 => some (.nx ρ h4)
        | none => none
      | none => none) := by first | (rw [evS]; done) | (rw [evS]; rfl)
theorem qS_ifs {F : Fn} {U : Above} {Wf : Nat} {a b c} {ρ : En} {h : Hb} : evS F U Wf (.ifs c a b) ρ h = (sB ρ (evT F c ρ h) fun t h1 => match t with
    | true => evSs F U Wf a ρ h1
    | false => evSs F U Wf b ρ h1) := by first | (rw [evS]; done) | (rw [evS]; rfl)
theorem qS_fors {F : Fn} {U : Above} {Wf : Nat} {b g it} {ρ : En} {h : Hb} : evS F U Wf (.fors g it b) ρ h = (sB ρ (evI F it ρ h) fun J h1 => forLoop J g (evSs F U Wf b) (J.size h1 + 1) 0 ρ h1) := by first | (rw [evS]; done) | (rw [evS]; rfl)
theorem qS_forV {F : Fn} {U : Above} {Wf : Nat} {b g i} {ρ : En} {h : Hb} : evS F U Wf (.forV g i b) ρ h = (match getVar ρ i with
    | some (.ref n) => match h[n]? with
      | some (.dt kvs) => (forLoop (.tup (kvs.map (·.2))) g (evSs F U Wf b) (kvs.length + 1) 0 ρ (h.set n (.frz (.dt kvs)))).bind (unlockS n)
      | _ => none
    | _ => none) := by first | (rw [evS]; done) | (rw [evS]; rfl)
theorem qS_whil {F : Fn} {U : Above} {Wf : Nat} {b c} {ρ : En} {h : Hb} : evS F U Wf (.whil c b) ρ h = (whileLoop (evT F c) (evSs F U Wf b) Wf ρ h) := by first | (rw [evS]; done) | (rw [evS]; rfl)
theorem qS_raise {F : Fn} {U : Above} {Wf : Nat} {c} {ρ : En} {h : Hb} : evS F U Wf (.raise c) ρ h = (some (.exc c [] ρ h)) := by first | (rw [evS]; done) | (rw [evS]; rfl)
theorem qS_tryO {F : Fn} {U : Above} {Wf : Nat} {b c s} {ρ : En} {h : Hb} : evS F U Wf (.tryO c b s) ρ h = (match evSs F U Wf b ρ h with
    | some (.exc c' fs ρ' h') => match U c' c with
      | some true => noXS (evSs F U Wf s ρ' h')
      | some false => some (.exc c' fs ρ' h')
      | none => none
    | r => r) := by first | (rw [evS]; done) | (rw [evS]; rfl)
theorem qS_brk {F : Fn} {U : Above} {Wf : Nat} {ρ : En} {h : Hb} : evS F U Wf .brk ρ h = (some (.brk ρ h)) := by first | (rw [evS]; done) | (rw [evS]; rfl)
theorem qS_cont {F : Fn} {U : Above} {Wf : Nat} {ρ : En} {h : Hb} : evS F U Wf .cont ρ h = (some (.cont ρ h)) := by first | (rw [evS]; done) | (rw [evS]; rfl)
theorem qS_pass {F : Fn} {U : Above} {Wf : Nat} {ρ : En} {h : Hb} : evS F U Wf .pass ρ h = (some (.nx ρ h)) := by first | (rw [evS]; done) | (rw [evS]; rfl)
theorem qS_bad {F : Fn} {U : Above} {Wf : Nat} {ρ : En} {h : Hb} : evS F U Wf .bad ρ h = (none) := by first | (rw [evS]; done) | (rw [evS]; rfl)
theorem qSs_nil {F : Fn} {U : Above} {Wf : Nat} {ρ : En} {h : Hb} : evSs F U Wf .nil ρ h = (some (.nx ρ h)) := by first | (rw [evSs]; done) | (rw [evSs]; rfl)
theorem qSs_cons {F : Fn} {U : Above} {Wf : Nat} {s ss} {ρ : En} {h : Hb} : evSs F U Wf (.cons s ss) ρ h = (match evS F U Wf s ρ h with
    | some (.nx ρ' h') => evSs F U Wf ss ρ' h'
    | r => r) := by first | (rw [evSs]; done) | (rw [evSs]; rfl)
end Qe

set_option Elab.async false
set_option linter.all false
set_option maxRecDepth 100000
set_option autoImplicit false
/-! Pl0: plain steps of the evaluator (no program's text in sight). -/
namespace Pl
open PySem Ev PK Qe

theorem str_inj (a b : String) : (Str.ofString a = Str.ofString b) = (a = b) := propext ⟨fun h => by
  rw [Str.ofString_eq_toList, Str.ofString_eq_toList] at h
  injection h with h
  have h' : a.toList.map Char.toNat = b.toList.map Char.toNat := by simpa using congrArg Array.toList h
  have inj : ∀ (x y : Char), x.toNat = y.toNat → x = y := fun x y e => Char.ext (UInt32.toNat_inj.mp e)
  have : a.toList = b.toList := by
    clear h
    generalize a.toList = l at h'
    generalize b.toList = m at h'
    induction l generalizing m with
    | nil => cases m with
      | nil => rfl
      | cons _ _ => simp at h'
    | cons x l ih => cases m with
      | nil => simp at h'
      | cons y m =>
        simp only [List.map_cons, List.cons.injEq] at h'
        rw [inj x y h'.1, ih m h'.2]
  exact String.toList_inj.mp this, fun h => by rw [h]⟩

theorem str_beq (a b : String) : (Str.ofString a == Str.ofString b) = (a == b) := by
  rw [Bool.eq_iff_iff]; simp [str_inj]
theorem ix_nat {α : Type} (xs : List α) (k : Nat) : ixD xs (k : Int) = xs[k]? := by
  unfold ixD L2.atI L2.ixN
  rw [if_pos (Int.natCast_nonneg k)]
  by_cases h : k < xs.length
  · rw [if_pos (by omega)]; simp
  · rw [if_neg (by omega), List.getElem?_eq_none (by omega)]; rfl
theorem ix_0 {α : Type} (xs : List α) : ixD xs 0 = xs[0]? := ix_nat xs 0
theorem ix_1 {α : Type} (xs : List α) : ixD xs 1 = xs[1]? := ix_nat xs 1
theorem ix_2 {α : Type} (xs : List α) : ixD xs 2 = xs[2]? := ix_nat xs 2
theorem ix_3 {α : Type} (xs : List α) : ixD xs 3 = xs[3]? := ix_nat xs 3
theorem ix_4 {α : Type} (xs : List α) : ixD xs 4 = xs[4]? := ix_nat xs 4
theorem gc_same (h : Hb) (d : D) : gc h.length h d h = .ok d h := by
  unfold gc
  split
  · split
    · rename_i m
      split
      · rfl
      · rename_i hm
        rw [List.getElem?_eq_none (Nat.le_of_not_lt hm)]
    · split <;> rfl
  · rfl
/-- the value names nothing that may change: all that was made is forgotten -/
theorem gc_ext (h g : Hb) (d : D) (hd : noRef d = true) : gc h.length h d (h ++ g) = .ok d h := by
  unfold gc
  rw [if_pos (by simp)]
  cases d with
  | ref m => simp [noRef] at hd
  | _ => simp only [hd, if_true]
/-- a new list of values that name nothing that may change -/
theorem gc_list (h g : Hb) (k : Nat) (ds : List D) (e : g[k]? = some (.lst ds)) (hd : noRef.noRefs ds = true) : gc h.length h (.ref (h.length + k)) (h ++ g) = .ok (.ref h.length) (h ++ [.lst ds]) := by
  unfold gc
  rw [if_pos (by simp)]
  have hk : ¬ h.length + k < h.length := by omega
  simp only [if_neg hk]
  rw [List.getElem?_append_right (by omega)]
  have : h.length + k - h.length = k := by omega
  rw [this, e]
  simp only [hd, if_true]
theorem gcX_ext (h g : Hb) (c : Str) : gcX h.length h c [] (h ++ g) = .exc c [] h := by
  unfold gcX
  rw [if_pos (by simp)]

theorem bnd_ok {α β : Type} (a : α) (h : Hb) (f : α → Hb → RO β) : bnd (some (.ok a h)) f = f a h := rfl
theorem bnd_exc {α β : Type} (c : Str) (fs : List (Str × D)) (h : Hb) (f : α → Hb → RO β) : bnd (some (.exc c fs h)) f = some (.exc c fs h) := rfl
theorem sB_ok {α : Type} (ρ : En) (a : α) (h : Hb) (f : α → Hb → Option SR) : sB ρ (some (.ok a h)) f = f a h := rfl
theorem sB_exc {α : Type} (ρ : En) (c : Str) (fs : List (Str × D)) (h : Hb) (f : α → Hb → Option SR) : sB ρ (some (.exc c fs h)) f = some (.exc c fs ρ h) := rfl

section
variable {n : Nat}
abbrev WF : Nat := 50
abbrev FN (n : Nat) : Fn := fnN pg WF n
theorem run_of {c f : Str} {d : Df} (e : keys.lookup (c, f) = some d) (ds : List D) (h : Hb) : (FN (n + 1)).run c f ds h = runDf (FN n) pg.above WF d ds h := by
  show (match pg.defs.lookup (c, f) with
    | some d => runDf (fnN pg WF n) pg.above WF d ds h
    | none => none) = _
  rw [show pg.defs.lookup (c, f) = some d from e]
end
theorem sizeLine_eq' : sizeLine = 16777216 := rfl
theorem k_value_key : keys.lookup (Str.empty, ("value_key" : Str)) = some f_value_key := by rfl
theorem value_key_int (n : Nat) (i : Int) (h : Hb) : (FN (n + 1)).run Str.empty "value_key" [.int i] h = some (.ok (.tup [.int 2, .int i]) h) := by
  rw [run_of k_value_key]
  simp [runDf, f_value_key, startEn, qE_var, qE_int, qE_bl, qE_non, qE_str, qE_gint, qE_gtup, qE_bin, qE_neg, qE_notv, qE_andv, qE_orv, qE_cmp, qE_ite, qE_call, qE_make, qE_meth, qE_blt, qE_isin, qE_bm, qE_fld, qE_idx, qE_slc, qE_tup, qE_lst, qE_dnewT, qE_dnewK, qE_disp, qE_lvals, qL_nil, qL_cons, qO_none, qO_some, qT_and, qT_or, qT_not, qT_ex, qT_cmp, qT_yes, qI_val, qI_rng, qI_rng1, qI_enum, qS_expr, qS_ret, qS_retN, qS_asg_tg, qS_asg_fld, qS_asg_sub, qS_par, qS_aug, qS_augS, qS_ifs, qS_raise, qS_tryO, qS_brk, qS_cont, qS_pass, qSs_nil, qSs_cons, qE_comp, qE_comp2, qS_fors, qS_forV, qS_whil, sB_ok, sB_exc, bnd_ok, bnd_exc, getVar, setVar, bindTg, cmpD, eqD, isD, inD, scalEq, scalar, flat, flatEq, isAny, tyOf, kitD, tru, nvRes, bltD, binD, idxD, ix_0, ix_1, ix_2, ix_3, ix_4, str_beq, Ev.newList, noX, okX, augD, nonNegIx, fits62, Tg.slots, Ev.wipe, str_inj, sizeLine_eq', gc_same]
theorem value_key_str (n : Nat) (i : Str) (h : Hb) : (FN (n + 1)).run Str.empty "value_key" [.str i] h = some (.ok (.tup [.int 3, .str i]) h) := by
  rw [run_of k_value_key]
  simp [runDf, f_value_key, startEn, qE_var, qE_int, qE_bl, qE_non, qE_str, qE_gint, qE_gtup, qE_bin, qE_neg, qE_notv, qE_andv, qE_orv, qE_cmp, qE_ite, qE_call, qE_make, qE_meth, qE_blt, qE_isin, qE_bm, qE_fld, qE_idx, qE_slc, qE_tup, qE_lst, qE_dnewT, qE_dnewK, qE_disp, qE_lvals, qL_nil, qL_cons, qO_none, qO_some, qT_and, qT_or, qT_not, qT_ex, qT_cmp, qT_yes, qI_val, qI_rng, qI_rng1, qI_enum, qS_expr, qS_ret, qS_retN, qS_asg_tg, qS_asg_fld, qS_asg_sub, qS_par, qS_aug, qS_augS, qS_ifs, qS_raise, qS_tryO, qS_brk, qS_cont, qS_pass, qSs_nil, qSs_cons, qE_comp, qE_comp2, qS_fors, qS_forV, qS_whil, sB_ok, sB_exc, bnd_ok, bnd_exc, getVar, setVar, bindTg, cmpD, eqD, isD, inD, scalEq, scalar, flat, flatEq, isAny, tyOf, kitD, tru, nvRes, bltD, binD, idxD, ix_0, ix_1, ix_2, ix_3, ix_4, str_beq, Ev.newList, noX, okX, augD, nonNegIx, fits62, Tg.slots, Ev.wipe, str_inj, sizeLine_eq', gc_same]
theorem value_key_non (n : Nat) (h : Hb) : (FN (n + 1)).run Str.empty "value_key" [.non] h = some (.ok (.tup [.int 0]) h) := by
  rw [run_of k_value_key]
  simp [runDf, f_value_key, startEn, qE_var, qE_int, qE_bl, qE_non, qE_str, qE_gint, qE_gtup, qE_bin, qE_neg, qE_notv, qE_andv, qE_orv, qE_cmp, qE_ite, qE_call, qE_make, qE_meth, qE_blt, qE_isin, qE_bm, qE_fld, qE_idx, qE_slc, qE_tup, qE_lst, qE_dnewT, qE_dnewK, qE_disp, qE_lvals, qL_nil, qL_cons, qO_none, qO_some, qT_and, qT_or, qT_not, qT_ex, qT_cmp, qT_yes, qI_val, qI_rng, qI_rng1, qI_enum, qS_expr, qS_ret, qS_retN, qS_asg_tg, qS_asg_fld, qS_asg_sub, qS_par, qS_aug, qS_augS, qS_ifs, qS_raise, qS_tryO, qS_brk, qS_cont, qS_pass, qSs_nil, qSs_cons, qE_comp, qE_comp2, qS_fors, qS_forV, qS_whil, sB_ok, sB_exc, bnd_ok, bnd_exc, getVar, setVar, bindTg, cmpD, eqD, isD, inD, scalEq, scalar, flat, flatEq, isAny, tyOf, kitD, tru, nvRes, bltD, binD, idxD, ix_0, ix_1, ix_2, ix_3, ix_4, str_beq, Ev.newList, noX, okX, augD, nonNegIx, fits62, Tg.slots, Ev.wipe, str_inj, sizeLine_eq', gc_same]
/-- cells of rows -/
def cell : D → Bool
  | .non | .int _ | .str _ => true
  | _ => false
def vkey : D → List D
  | .non => [.int 0]
  | .int i => [.int 2, .int i]
  | .str s => [.int 3, .str s]
  | _ => []
theorem value_key (n : Nat) (d : D) (hd : cell d = true) (h : Hb) : (FN (n + 1)).run Str.empty "value_key" [d] h = some (.ok (.tup (vkey d)) h) := by
  cases d <;> simp [cell] at hd
  · exact value_key_non n h
  · exact value_key_int n _ h
  · exact value_key_str n _ h
end Pl

set_option Elab.async false
set_option linter.all false
set_option maxRecDepth 100000
set_option autoImplicit false
set_option maxHeartbeats 0
/-! Pl1: plain steps: columns, frames, values. -/
namespace Pl
open PySem Ev PK Qe

theorem ts0 : toString (0 : Int) = "0" := by rfl
theorem ts1 : toString (1 : Int) = "1" := by rfl
theorem ts2 : toString (2 : Int) = "2" := by rfl
theorem ts3 : toString (3 : Int) = "3" := by rfl
theorem k_same : keys.lookup (Str.empty, ("same" : Str)) = some f_same := by rfl
theorem k_compare : keys.lookup (Str.empty, ("compare" : Str)) = some f_compare := by rfl
theorem k_combined : keys.lookup (Str.empty, ("combined" : Str)) = some f_combined := by rfl
theorem k_named : keys.lookup (Str.empty, ("named" : Str)) = some f_named := by rfl
theorem k_locate : keys.lookup (Str.empty, ("locate" : Str)) = some f_locate := by rfl
theorem k_value_of : keys.lookup (Str.empty, ("value_of" : Str)) = some f_value_of := by rfl
theorem k_Frame : keys.lookup (("Frame" : Str), ("__init__" : Str)) = some m_FrameU_initU := by rfl
theorem k_value : keys.lookup (("Runner" : Str), ("value" : Str)) = some m_Runner_value := by rfl
theorem k_holds : keys.lookup (("Runner" : Str), ("holds" : Str)) = some m_Runner_holds := by rfl

/-- places behind what stands -/
theorem at_new (h g : Hb) (k : Nat) : (h ++ g)[h.length + k]? = g[k]? := by
  rw [List.getElem?_append_right (by omega)]
  congr 1; omega
theorem at_new0 (h g : Hb) : (h ++ g)[h.length]? = g[0]? := at_new h g 0
theorem at_old {h g : Hb} {r : Nat} {o : Ob} (e : h[r]? = some o) : (h ++ g)[r]? = some o := by
  rw [List.getElem?_append_left (List.getElem?_eq_some_iff.mp e).1]; exact e
theorem items_of {h : Hb} {n : Nat} {ds : List D} (e : h[n]? = some (.lst ds)) : items h n = some ds := by unfold items; rw [e]

/-- the columns of a row -/
def cols4 : List D := [.tup [.non, .str "0"], .tup [.non, .str "1"], .tup [.non, .str "2"], .tup [.non, .str "3"]]
def cols2 : List D := [.tup [.non, .str "0"], .tup [.non, .str "1"]]
theorem gc_list0 (h : Hb) (ds : List D) : gc h.length h (.ref h.length) (h ++ [.lst ds]) = .ok (.ref h.length) (h ++ [.lst ds]) := by
  unfold gc
  rw [if_pos (by simp)]
  simp [at_new0]
theorem named4_1 (n : Nat) (h : Hb) (m : Nat) (e : h[m]? = some (.lst cols4)) : (FN (n + 1)).run Str.empty "named" [.ref m, .non, .str "1"] h = some (.ok (.ref h.length) (h ++ [.lst [.int 1]])) := by
  have e1 : ∀ g : Hb, (h ++ g)[m]? = some (.lst cols4) := fun g => at_old e
  rw [run_of k_named]
  simp [runDf, f_named, startEn, qE_var, qE_int, qE_bl, qE_non, qE_str, qE_gint, qE_gtup, qE_bin, qE_neg, qE_notv, qE_andv, qE_orv, qE_cmp, qE_ite, qE_call, qE_make, qE_meth, qE_blt, qE_isin, qE_bm, qE_fld, qE_idx, qE_slc, qE_tup, qE_lst, qE_dnewT, qE_dnewK, qE_disp, qE_lvals, qL_nil, qL_cons, qO_none, qO_some, qT_and, qT_or, qT_not, qT_ex, qT_cmp, qT_yes, qI_val, qI_rng, qI_rng1, qI_enum, qS_expr, qS_ret, qS_retN, qS_asg_tg, qS_asg_fld, qS_asg_sub, qS_par, qS_aug, qS_augS, qS_ifs, qS_raise, qS_tryO, qS_brk, qS_cont, qS_pass, qSs_nil, qSs_cons, qE_comp, qE_comp2, qS_fors, qS_forV, qS_whil, sB_ok, sB_exc, bnd_ok, bnd_exc, getVar, setVar, bindTg, cmpD, eqD, isD, inD, scalEq, scalar, flat, flatEq, isAny, tyOf, kitD, tru, nvRes, bltD, binD, idxD, ix_0, ix_1, ix_2, ix_3, ix_4, str_beq, Ev.newList, noX, okX, augD, nonNegIx, fits62, Tg.slots, Ev.wipe, str_inj, sizeLine_eq', items, It.at, It.size, forLoop, e1, at_new0, bmT, bmD, cols4, gc_list0]
theorem named4_3 (n : Nat) (h : Hb) (m : Nat) (e : h[m]? = some (.lst cols4)) : (FN (n + 1)).run Str.empty "named" [.ref m, .non, .str "3"] h = some (.ok (.ref h.length) (h ++ [.lst [.int 3]])) := by
  have e1 : ∀ g : Hb, (h ++ g)[m]? = some (.lst cols4) := fun g => at_old e
  rw [run_of k_named]
  simp [runDf, f_named, startEn, qE_var, qE_int, qE_bl, qE_non, qE_str, qE_gint, qE_gtup, qE_bin, qE_neg, qE_notv, qE_andv, qE_orv, qE_cmp, qE_ite, qE_call, qE_make, qE_meth, qE_blt, qE_isin, qE_bm, qE_fld, qE_idx, qE_slc, qE_tup, qE_lst, qE_dnewT, qE_dnewK, qE_disp, qE_lvals, qL_nil, qL_cons, qO_none, qO_some, qT_and, qT_or, qT_not, qT_ex, qT_cmp, qT_yes, qI_val, qI_rng, qI_rng1, qI_enum, qS_expr, qS_ret, qS_retN, qS_asg_tg, qS_asg_fld, qS_asg_sub, qS_par, qS_aug, qS_augS, qS_ifs, qS_raise, qS_tryO, qS_brk, qS_cont, qS_pass, qSs_nil, qSs_cons, qE_comp, qE_comp2, qS_fors, qS_forV, qS_whil, sB_ok, sB_exc, bnd_ok, bnd_exc, getVar, setVar, bindTg, cmpD, eqD, isD, inD, scalEq, scalar, flat, flatEq, isAny, tyOf, kitD, tru, nvRes, bltD, binD, idxD, ix_0, ix_1, ix_2, ix_3, ix_4, str_beq, Ev.newList, noX, okX, augD, nonNegIx, fits62, Tg.slots, Ev.wipe, str_inj, sizeLine_eq', items, It.at, It.size, forLoop, e1, at_new0, bmT, bmD, cols4, gc_list0]
theorem named2_1 (n : Nat) (h : Hb) (m : Nat) (e : h[m]? = some (.lst cols2)) : (FN (n + 1)).run Str.empty "named" [.ref m, .non, .str "1"] h = some (.ok (.ref h.length) (h ++ [.lst [.int 1]])) := by
  have e1 : ∀ g : Hb, (h ++ g)[m]? = some (.lst cols2) := fun g => at_old e
  rw [run_of k_named]
  simp [runDf, f_named, startEn, qE_var, qE_int, qE_bl, qE_non, qE_str, qE_gint, qE_gtup, qE_bin, qE_neg, qE_notv, qE_andv, qE_orv, qE_cmp, qE_ite, qE_call, qE_make, qE_meth, qE_blt, qE_isin, qE_bm, qE_fld, qE_idx, qE_slc, qE_tup, qE_lst, qE_dnewT, qE_dnewK, qE_disp, qE_lvals, qL_nil, qL_cons, qO_none, qO_some, qT_and, qT_or, qT_not, qT_ex, qT_cmp, qT_yes, qI_val, qI_rng, qI_rng1, qI_enum, qS_expr, qS_ret, qS_retN, qS_asg_tg, qS_asg_fld, qS_asg_sub, qS_par, qS_aug, qS_augS, qS_ifs, qS_raise, qS_tryO, qS_brk, qS_cont, qS_pass, qSs_nil, qSs_cons, qE_comp, qE_comp2, qS_fors, qS_forV, qS_whil, sB_ok, sB_exc, bnd_ok, bnd_exc, getVar, setVar, bindTg, cmpD, eqD, isD, inD, scalEq, scalar, flat, flatEq, isAny, tyOf, kitD, tru, nvRes, bltD, binD, idxD, ix_0, ix_1, ix_2, ix_3, ix_4, str_beq, Ev.newList, noX, okX, augD, nonNegIx, fits62, Tg.slots, Ev.wipe, str_inj, sizeLine_eq', items, It.at, It.size, forLoop, e1, at_new0, bmT, bmD, cols2, gc_list0]
/-- what named gives for a column of a row of that many cells -/
def Nm (cols : List D) (s : Str) (i : Int) : Prop := ∀ (n : Nat) (h : Hb) (m : Nat), h[m]? = some (.lst cols) → (FN (n + 1)).run Str.empty "named" [.ref m, .non, .str s] h = some (.ok (.ref h.length) (h ++ [.lst [.int i]]))
def frm (m : Nat) (row mem : D) : Ob := .ins "Frame" [("columns", .ref m), ("row", row), ("members", mem), ("outer", .non)]
theorem locate_ok {cols : List D} {s : Str} {i : Int} (nm : Nm cols s i) (n : Nat) (h : Hb) (f m : Nat) (row mem : D) (ef : h[f]? = some (frm m row mem)) (em : h[m]? = some (.lst cols)) :
    (FN (n + 2)).run Str.empty "locate" [.ref f, .non, .str s] h = some (.ok (.tup [.ref f, .int i]) (h ++ [.lst [.int i]])) := by
  have e1 : ∀ g : Hb, (h ++ g)[f]? = some (frm m row mem) := fun g => at_old ef
  rw [run_of k_locate]
  simp [runDf, f_locate, startEn, qE_var, qE_int, qE_bl, qE_non, qE_str, qE_gint, qE_gtup, qE_bin, qE_neg, qE_notv, qE_andv, qE_orv, qE_cmp, qE_ite, qE_call, qE_make, qE_meth, qE_blt, qE_isin, qE_bm, qE_fld, qE_idx, qE_slc, qE_tup, qE_lst, qE_dnewT, qE_dnewK, qE_disp, qE_lvals, qL_nil, qL_cons, qO_none, qO_some, qT_and, qT_or, qT_not, qT_ex, qT_cmp, qT_yes, qI_val, qI_rng, qI_rng1, qI_enum, qS_expr, qS_ret, qS_retN, qS_asg_tg, qS_asg_fld, qS_asg_sub, qS_par, qS_aug, qS_augS, qS_ifs, qS_raise, qS_tryO, qS_brk, qS_cont, qS_pass, qSs_nil, qSs_cons, qE_comp, qE_comp2, qS_fors, qS_forV, qS_whil, sB_ok, sB_exc, bnd_ok, bnd_exc, getVar, setVar, bindTg, cmpD, eqD, isD, inD, scalEq, scalar, flat, flatEq, isAny, tyOf, kitD, tru, nvRes, bltD, binD, idxD, ix_0, ix_1, ix_2, ix_3, ix_4, str_beq, Ev.newList, noX, okX, augD, nonNegIx, fits62, Tg.slots, Ev.wipe, str_inj, sizeLine_eq', items, whileLoop, e1, ef, nm n h m em, at_new0, frm, List.lookup]
  simp [gc, noRef, noRef.noRefs]
theorem value_col {cols : List D} {s : Str} {i : Int} (nm : Nm cols s i) (n : Nat) (h : Hb) (f m w : Nat) (cells : List D) (mem d : D) (ef : h[f]? = some (frm m (.tup cells) mem)) (em : h[m]? = some (.lst cols)) (ed : ixD cells i = some d) (hd : noRef d = true) :
    (FN (n + 3)).run Str.empty "value_of" [.tup [.str "column", .non, .str s], .ref f, .ref w] h = some (.ok d h) := by
  have e1 : ∀ g : Hb, (h ++ g)[f]? = some (frm m (.tup cells) mem) := fun g => at_old ef
  rw [run_of k_value_of]
  simp [runDf, f_value_of, startEn, qE_var, qE_int, qE_bl, qE_non, qE_str, qE_gint, qE_gtup, qE_bin, qE_neg, qE_notv, qE_andv, qE_orv, qE_cmp, qE_ite, qE_call, qE_make, qE_meth, qE_blt, qE_isin, qE_bm, qE_fld, qE_idx, qE_slc, qE_tup, qE_lst, qE_dnewT, qE_dnewK, qE_disp, qE_lvals, qL_nil, qL_cons, qO_none, qO_some, qT_and, qT_or, qT_not, qT_ex, qT_cmp, qT_yes, qI_val, qI_rng, qI_rng1, qI_enum, qS_expr, qS_ret, qS_retN, qS_asg_tg, qS_asg_fld, qS_asg_sub, qS_par, qS_aug, qS_augS, qS_ifs, qS_raise, qS_tryO, qS_brk, qS_cont, qS_pass, qSs_nil, qSs_cons, qE_comp, qE_comp2, qS_fors, qS_forV, qS_whil, sB_ok, sB_exc, bnd_ok, bnd_exc, getVar, setVar, bindTg, cmpD, eqD, isD, inD, scalEq, scalar, flat, flatEq, isAny, tyOf, kitD, tru, nvRes, bltD, binD, idxD, ix_0, ix_1, ix_2, ix_3, ix_4, str_beq, Ev.newList, noX, okX, augD, nonNegIx, fits62, Tg.slots, Ev.wipe, str_inj, sizeLine_eq', e1, ef, locate_ok nm n h f m (.tup cells) mem ef em, frm, List.lookup, ed]
  exact gc_ext h _ d hd
end Pl

set_option Elab.async false
set_option linter.all false
set_option maxRecDepth 100000
set_option autoImplicit false
set_option maxHeartbeats 0
/-! Pl2: plain steps: comparisons, values by a runner. -/
namespace Pl
open PySem Ev PK Qe

theorem gc_len (h h' : Hb) (d : D) (hd : noRef d = true) (e : h'.length = h.length) : gc h.length h d h' = .ok d h' := by
  unfold gc
  have et : h'.take h.length = h' := by rw [← e]; exact List.take_length
  rw [et]
  split
  · rename_i q
    subst q
    cases d with
    | ref m => simp [noRef] at hd
    | _ => simp only [hd, if_true]
  · rfl
theorem gc_app1 (h : Hb) (a b : Ob) (d : D) (hd : noRef d = true := by rfl) : gc (h.length + 1) (h ++ [a]) d (h ++ [b]) = .ok d (h ++ [b]) := by
  have := gc_len (h ++ [a]) (h ++ [b]) d hd (by simp)
  simpa using this
theorem gc_app1n (h : Hb) (a b : Ob) : gc (h.length + 1) (h ++ [a]) .non (h ++ [b]) = .ok .non (h ++ [b]) := gc_app1 h a b .non
theorem nl1 : Nat.log2 1 = 0 := by decide
theorem nl2 : Nat.log2 2 = 1 := by decide
theorem nl3 : Nat.log2 3 = 1 := by decide
theorem ir0 : Int.repr 0 = "0" := by rfl
theorem ir1 : Int.repr 1 = "1" := by rfl
theorem ir2 : Int.repr 2 = "2" := by rfl
theorem ir3 : Int.repr 3 = "3" := by rfl
theorem tup_int_eq (h : Hb) (i j : Int) : deepEq h (.tup [.int 2, .int i]) (.tup [.int 2, .int j]) = some (decide (i = j)) := by
  simp [deepEq, toPy, SeqAt.shaped, PyData.canLay0, PyData.depth, PyData.eqv, PyData.eqvAll, PyData.canLayAll0, PyData.depthAll]
  exact Bool.beq_eq_decide_eq i j
theorem compare_int (n : Nat) (i j : Int) (h : Hb) : (FN (n + 2)).run Str.empty "compare" [.str "=", .int i, .int j] h = some (.ok (.bl (decide (i = j))) h) := by
  rw [run_of k_compare]
  simp [runDf, f_compare, startEn, qE_var, qE_int, qE_bl, qE_non, qE_str, qE_gint, qE_gtup, qE_bin, qE_neg, qE_notv, qE_andv, qE_orv, qE_cmp, qE_ite, qE_call, qE_make, qE_meth, qE_blt, qE_isin, qE_bm, qE_fld, qE_idx, qE_slc, qE_tup, qE_lst, qE_dnewT, qE_dnewK, qE_disp, qE_lvals, qL_nil, qL_cons, qO_none, qO_some, qT_and, qT_or, qT_not, qT_ex, qT_cmp, qT_yes, qI_val, qI_rng, qI_rng1, qI_enum, qS_expr, qS_ret, qS_retN, qS_asg_tg, qS_asg_fld, qS_asg_sub, qS_par, qS_aug, qS_augS, qS_ifs, qS_raise, qS_tryO, qS_brk, qS_cont, qS_pass, qSs_nil, qSs_cons, qE_comp, qE_comp2, qS_fors, qS_forV, qS_whil, sB_ok, sB_exc, bnd_ok, bnd_exc, getVar, setVar, bindTg, cmpD, eqD, isD, inD, inTup, scalEq, scalar, flat, flatEq, isAny, tyOf, kitD, tru, nvRes, bltD, binD, idxD, ix_0, ix_1, ix_2, ix_3, ix_4, str_beq, Ev.newList, noX, okX, augD, nonNegIx, fits62, Tg.slots, Ev.wipe, str_inj, sizeLine_eq', value_key_int, gc_same, tup_int_eq]
theorem combined_eq (n : Nat) (i j : Int) (h : Hb) : (FN (n + 3)).run Str.empty "combined" [.str "=", .int i, .int j] h = some (.ok (.bl (decide (i = j))) h) := by
  rw [run_of k_combined]
  simp [runDf, f_combined, startEn, qE_var, qE_int, qE_bl, qE_non, qE_str, qE_gint, qE_gtup, qE_bin, qE_neg, qE_notv, qE_andv, qE_orv, qE_cmp, qE_ite, qE_call, qE_make, qE_meth, qE_blt, qE_isin, qE_bm, qE_fld, qE_idx, qE_slc, qE_tup, qE_lst, qE_dnewT, qE_dnewK, qE_disp, qE_lvals, qL_nil, qL_cons, qO_none, qO_some, qT_and, qT_or, qT_not, qT_ex, qT_cmp, qT_yes, qI_val, qI_rng, qI_rng1, qI_enum, qS_expr, qS_ret, qS_retN, qS_asg_tg, qS_asg_fld, qS_asg_sub, qS_par, qS_aug, qS_augS, qS_ifs, qS_raise, qS_tryO, qS_brk, qS_cont, qS_pass, qSs_nil, qSs_cons, qE_comp, qE_comp2, qS_fors, qS_forV, qS_whil, sB_ok, sB_exc, bnd_ok, bnd_exc, getVar, setVar, bindTg, cmpD, eqD, isD, inD, inTup, scalEq, scalar, flat, flatEq, isAny, tyOf, kitD, tru, nvRes, bltD, binD, idxD, ix_0, ix_1, ix_2, ix_3, ix_4, str_beq, Ev.newList, noX, okX, augD, nonNegIx, fits62, Tg.slots, Ev.wipe, str_inj, sizeLine_eq', compare_int, gc_same]
theorem same_int (n : Nat) (i j : Int) (h : Hb) : (FN (n + 2)).run Str.empty "same" [.int i, .int j] h = some (.ok (.bl (decide (i = j))) h) := by
  rw [run_of k_same]
  simp [runDf, f_same, startEn, qE_var, qE_int, qE_bl, qE_non, qE_str, qE_gint, qE_gtup, qE_bin, qE_neg, qE_notv, qE_andv, qE_orv, qE_cmp, qE_ite, qE_call, qE_make, qE_meth, qE_blt, qE_isin, qE_bm, qE_fld, qE_idx, qE_slc, qE_tup, qE_lst, qE_dnewT, qE_dnewK, qE_disp, qE_lvals, qL_nil, qL_cons, qO_none, qO_some, qT_and, qT_or, qT_not, qT_ex, qT_cmp, qT_yes, qI_val, qI_rng, qI_rng1, qI_enum, qS_expr, qS_ret, qS_retN, qS_asg_tg, qS_asg_fld, qS_asg_sub, qS_par, qS_aug, qS_augS, qS_ifs, qS_raise, qS_tryO, qS_brk, qS_cont, qS_pass, qSs_nil, qSs_cons, qE_comp, qE_comp2, qS_fors, qS_forV, qS_whil, sB_ok, sB_exc, bnd_ok, bnd_exc, getVar, setVar, bindTg, cmpD, eqD, isD, inD, inTup, scalEq, scalar, flat, flatEq, isAny, tyOf, kitD, tru, nvRes, bltD, binD, idxD, ix_0, ix_1, ix_2, ix_3, ix_4, str_beq, Ev.newList, noX, okX, augD, nonNegIx, fits62, Tg.slots, Ev.wipe, str_inj, sizeLine_eq', value_key_int, gc_same, tup_int_eq]
theorem frame_init (n : Nat) (h : Hb) (m : Nat) (row mem : D) : (FN (n + 1)).run "Frame" "__init__" [.ref h.length, .ref m, row, mem, .non] (h ++ [.ins "Frame" []]) = some (.ok .non (h ++ [frm m row mem])) := by
  rw [run_of k_Frame]
  simp [runDf, m_FrameU_initU, startEn, qE_var, qE_int, qE_bl, qE_non, qE_str, qE_gint, qE_gtup, qE_bin, qE_neg, qE_notv, qE_andv, qE_orv, qE_cmp, qE_ite, qE_call, qE_make, qE_meth, qE_blt, qE_isin, qE_bm, qE_fld, qE_idx, qE_slc, qE_tup, qE_lst, qE_dnewT, qE_dnewK, qE_disp, qE_lvals, qL_nil, qL_cons, qO_none, qO_some, qT_and, qT_or, qT_not, qT_ex, qT_cmp, qT_yes, qI_val, qI_rng, qI_rng1, qI_enum, qS_expr, qS_ret, qS_retN, qS_asg_tg, qS_asg_fld, qS_asg_sub, qS_par, qS_aug, qS_augS, qS_ifs, qS_raise, qS_tryO, qS_brk, qS_cont, qS_pass, qSs_nil, qSs_cons, qE_comp, qE_comp2, qS_fors, qS_forV, qS_whil, sB_ok, sB_exc, bnd_ok, bnd_exc, getVar, setVar, bindTg, cmpD, eqD, isD, inD, inTup, scalEq, scalar, flat, flatEq, isAny, tyOf, kitD, tru, nvRes, bltD, binD, idxD, ix_0, ix_1, ix_2, ix_3, ix_4, str_beq, Ev.newList, noX, okX, augD, nonNegIx, fits62, Tg.slots, Ev.wipe, str_inj, sizeLine_eq', putFld, putA, at_new0, frm, gc_app1n]
theorem value_lit (n : Nat) (h : Hb) (f w : Nat) (d : D) (hd : noRef d = true) : (FN (n + 1)).run Str.empty "value_of" [.tup [.str "literal", d], .ref f, .ref w] h = some (.ok d h) := by
  rw [run_of k_value_of]
  simp [runDf, f_value_of, startEn, qE_var, qE_int, qE_bl, qE_non, qE_str, qE_gint, qE_gtup, qE_bin, qE_neg, qE_notv, qE_andv, qE_orv, qE_cmp, qE_ite, qE_call, qE_make, qE_meth, qE_blt, qE_isin, qE_bm, qE_fld, qE_idx, qE_slc, qE_tup, qE_lst, qE_dnewT, qE_dnewK, qE_disp, qE_lvals, qL_nil, qL_cons, qO_none, qO_some, qT_and, qT_or, qT_not, qT_ex, qT_cmp, qT_yes, qI_val, qI_rng, qI_rng1, qI_enum, qS_expr, qS_ret, qS_retN, qS_asg_tg, qS_asg_fld, qS_asg_sub, qS_par, qS_aug, qS_augS, qS_ifs, qS_raise, qS_tryO, qS_brk, qS_cont, qS_pass, qSs_nil, qSs_cons, qE_comp, qE_comp2, qS_fors, qS_forV, qS_whil, sB_ok, sB_exc, bnd_ok, bnd_exc, getVar, setVar, bindTg, cmpD, eqD, isD, inD, inTup, scalEq, scalar, flat, flatEq, isAny, tyOf, kitD, tru, nvRes, bltD, binD, idxD, ix_0, ix_1, ix_2, ix_3, ix_4, str_beq, Ev.newList, noX, okX, augD, nonNegIx, fits62, Tg.slots, Ev.wipe, str_inj, sizeLine_eq', gc_same]
/-- row columns 1 and 3 compared -/
theorem value_eq {cols : List D} (n1 : Nm cols "1" 1) (n3 : Nm cols "3" 3) (n : Nat) (h : Hb) (f m w : Nat) (cells : List D) (mem : D) (i j : Int) (ef : h[f]? = some (frm m (.tup cells) mem)) (em : h[m]? = some (.lst cols)) (e1 : cells[1]? = some (.int i)) (e3 : cells[3]? = some (.int j)) :
    (FN (n + 4)).run Str.empty "value_of" [.tup [.str "binary", .str "=", .tup [.str "column", .non, .str "1"], .tup [.str "column", .non, .str "3"]], .ref f, .ref w] h = some (.ok (.bl (decide (i = j))) h) := by
  have v1 := value_col n1 n h f m w cells mem (.int i) ef em (by rw [ix_1]; exact e1) rfl
  have v3 := value_col n3 n h f m w cells mem (.int j) ef em (by rw [ix_3]; exact e3) rfl
  rw [run_of k_value_of]
  simp [runDf, f_value_of, startEn, qE_var, qE_int, qE_bl, qE_non, qE_str, qE_gint, qE_gtup, qE_bin, qE_neg, qE_notv, qE_andv, qE_orv, qE_cmp, qE_ite, qE_call, qE_make, qE_meth, qE_blt, qE_isin, qE_bm, qE_fld, qE_idx, qE_slc, qE_tup, qE_lst, qE_dnewT, qE_dnewK, qE_disp, qE_lvals, qL_nil, qL_cons, qO_none, qO_some, qT_and, qT_or, qT_not, qT_ex, qT_cmp, qT_yes, qI_val, qI_rng, qI_rng1, qI_enum, qS_expr, qS_ret, qS_retN, qS_asg_tg, qS_asg_fld, qS_asg_sub, qS_par, qS_aug, qS_augS, qS_ifs, qS_raise, qS_tryO, qS_brk, qS_cont, qS_pass, qSs_nil, qSs_cons, qE_comp, qE_comp2, qS_fors, qS_forV, qS_whil, sB_ok, sB_exc, bnd_ok, bnd_exc, getVar, setVar, bindTg, cmpD, eqD, isD, inD, inTup, scalEq, scalar, flat, flatEq, isAny, tyOf, kitD, tru, nvRes, bltD, binD, idxD, ix_0, ix_1, ix_2, ix_3, ix_4, str_beq, Ev.newList, noX, okX, augD, nonNegIx, fits62, Tg.slots, Ev.wipe, str_inj, sizeLine_eq', gc_same, v1, v3, combined_eq]
/-- a runner that stands -/
def rnr (S W : Nat) : Ob := .ins "Runner" [("sources", .ref S), ("world", .ref W)]
theorem rv4 (n : Nat) (h : Hb) (r S W : Nat) (node mem a b c d x : D) (er : h[r]? = some (rnr S W)) (hx : noRef x = true)
    (hv : (FN (n + 1)).run Str.empty "value_of" [node, .ref (h.length + 1), .ref W] (h ++ [.lst cols4, frm h.length (.tup [a, b, c, d]) mem]) = some (.ok x (h ++ [.lst cols4, frm h.length (.tup [a, b, c, d]) mem]))) :
    (FN (n + 2)).run "Runner" "value" [.ref r, node, .tup [a, b, c, d], mem] h = some (.ok x h) := by
  have e1 : ∀ g : Hb, (h ++ g)[r]? = some (rnr S W) := fun g => at_old er
  have fi := frame_init n (h ++ [.lst cols4]) h.length (.tup [a, b, c, d]) mem
  simp only [List.append_assoc, List.length_append, List.length_cons, List.length_nil, List.cons_append, List.nil_append, Nat.zero_add] at fi
  simp only [cols4, frm] at fi hv
  rw [run_of k_value]
  simp [runDf, m_Runner_value, startEn, qE_var, qE_int, qE_bl, qE_non, qE_str, qE_gint, qE_gtup, qE_bin, qE_neg, qE_notv, qE_andv, qE_orv, qE_cmp, qE_ite, qE_call, qE_make, qE_meth, qE_blt, qE_isin, qE_bm, qE_fld, qE_idx, qE_slc, qE_tup, qE_lst, qE_dnewT, qE_dnewK, qE_disp, qE_lvals, qL_nil, qL_cons, qO_none, qO_some, qT_and, qT_or, qT_not, qT_ex, qT_cmp, qT_yes, qI_val, qI_rng, qI_rng1, qI_enum, qS_expr, qS_ret, qS_retN, qS_asg_tg, qS_asg_fld, qS_asg_sub, qS_par, qS_aug, qS_augS, qS_ifs, qS_raise, qS_tryO, qS_brk, qS_cont, qS_pass, qSs_nil, qSs_cons, qE_comp, qE_comp2, qS_fors, qS_forV, qS_whil, sB_ok, sB_exc, bnd_ok, bnd_exc, getVar, setVar, bindTg, cmpD, eqD, isD, inD, inTup, scalEq, scalar, flat, flatEq, isAny, tyOf, kitD, tru, nvRes, bltD, binD, idxD, ix_0, ix_1, ix_2, ix_3, ix_4, str_beq, Ev.newList, noX, okX, augD, nonNegIx, fits62, Tg.slots, Ev.wipe, str_inj, sizeLine_eq', e1, er, It.at, It.size, compLoop, nl1, nl2, nl3, ir0, ir1, ir2, ir3, rnr, List.lookup, fi, hv]
  exact gc_ext h _ x hx
end Pl

set_option Elab.async false
set_option linter.all false
set_option maxRecDepth 100000
set_option autoImplicit false
set_option maxHeartbeats 0
/-! Pl3: plain steps: loops, what holds of a row. -/
namespace Pl
open PySem Ev PK Qe

theorem comp_from {J : It} {g : Tg} {c : En → Hb → RO Bool} {e : En → Hb → RO D} {ρ : En} {h : Hb} {ds : List D} {p : D → Bool} {f : D → D} (hat : ∀ i, J.at h i = some ds[i]?)
    (hb : ∀ d ∈ ds, ∃ ρ', bindTg ρ g d = some ρ' ∧ c ρ' h = some (.ok (p d) h) ∧ (p d = true → e ρ' h = some (.ok (f d) h))) :
    ∀ (m i : Nat) (acc : List D), i + m = ds.length → acc.length + ((ds.drop i).filter p).length ≤ sizeLine → compLoop J g c e ρ (m + 1) i acc h = some (.ok (acc ++ ((ds.drop i).filter p).map f) h) := by
  intro m
  induction m with
  | zero =>
    intro i acc hi hl
    have hn : ds[i]? = none := List.getElem?_eq_none (by omega)
    have hd : ds.drop i = [] := List.drop_eq_nil_of_le (by omega)
    simp only [compLoop, hat, hn, hd]
    simp
  | succ m ih =>
    intro i acc hi hl
    have hlt : i < ds.length := by omega
    have hs : ds[i]? = some ds[i] := List.getElem?_eq_getElem hlt
    have hd : ds.drop i = ds[i] :: ds.drop (i + 1) := List.drop_eq_getElem_cons hlt
    obtain ⟨ρ', b1, b2, b3⟩ := hb ds[i] (List.getElem_mem hlt)
    rw [hd] at hl
    rw [compLoop]
    simp only [hat, hs, b1, b2, bnd_ok]
    cases hp : p ds[i] with
    | false =>
      simp only
      rw [List.filter_cons_of_neg (by rw [hp]; exact Bool.false_ne_true)] at hl
      rw [ih (i + 1) acc (by omega) hl, hd, List.filter_cons_of_neg (by rw [hp]; exact Bool.false_ne_true)]
    | true =>
      simp only [b3 hp, bnd_ok]
      rw [List.filter_cons_of_pos hp, List.length_cons] at hl
      rw [if_pos (by omega), ih (i + 1) (acc ++ [f ds[i]]) (by omega) (by rw [List.length_append, List.length_singleton]; omega), hd, List.filter_cons_of_pos hp, List.map_cons, List.append_assoc]
      rfl
theorem comp_all {J : It} {g : Tg} {c : En → Hb → RO Bool} {e : En → Hb → RO D} {ρ : En} {h : Hb} {ds : List D} {p : D → Bool} {f : D → D} (hat : ∀ i, J.at h i = some ds[i]?) (hz : J.size h = ds.length)
    (hb : ∀ d ∈ ds, ∃ ρ', bindTg ρ g d = some ρ' ∧ c ρ' h = some (.ok (p d) h) ∧ (p d = true → e ρ' h = some (.ok (f d) h))) (acc : List D) (hl : acc.length + (ds.filter p).length ≤ sizeLine) :
    compLoop J g c e ρ (J.size h + 1) 0 acc h = some (.ok (acc ++ (ds.filter p).map f) h) := by
  rw [hz, comp_from hat hb ds.length 0 acc (by omega) hl]
  rfl
theorem comp2_from {J : It} {g : Tg} {inner : En → List D → Hb → RO (List D)} {ρ : En} {h : Hb} {ds : List D} {f : D → List D} (hat : ∀ i, J.at h i = some ds[i]?)
    (hb : ∀ d ∈ ds, ∃ ρ', bindTg ρ g d = some ρ' ∧ ∀ acc : List D, acc.length + (f d).length ≤ sizeLine → inner ρ' acc h = some (.ok (acc ++ f d) h)) :
    ∀ (m i : Nat) (acc : List D), i + m = ds.length → acc.length + ((ds.drop i).flatMap f).length ≤ sizeLine → compLoop2 J g inner ρ (m + 1) i acc h = some (.ok (acc ++ (ds.drop i).flatMap f) h) := by
  intro m
  induction m with
  | zero =>
    intro i acc hi hl
    have hn : ds[i]? = none := List.getElem?_eq_none (by omega)
    have hd : ds.drop i = [] := List.drop_eq_nil_of_le (by omega)
    simp only [compLoop2, hat, hn, hd]
    simp
  | succ m ih =>
    intro i acc hi hl
    have hlt : i < ds.length := by omega
    have hs : ds[i]? = some ds[i] := List.getElem?_eq_getElem hlt
    have hd : ds.drop i = ds[i] :: ds.drop (i + 1) := List.drop_eq_getElem_cons hlt
    obtain ⟨ρ', b1, b2⟩ := hb ds[i] (List.getElem_mem hlt)
    rw [hd, List.flatMap_cons, List.length_append] at hl
    rw [compLoop2]
    simp only [hat, hs, b1, b2 acc (by omega), bnd_ok]
    rw [ih (i + 1) _ (by omega) (by simp only [List.length_append]; omega), hd, List.flatMap_cons, List.append_assoc]
theorem comp2_all {J : It} {g : Tg} {inner : En → List D → Hb → RO (List D)} {ρ : En} {h : Hb} {ds : List D} {f : D → List D} (hat : ∀ i, J.at h i = some ds[i]?) (hz : J.size h = ds.length)
    (hb : ∀ d ∈ ds, ∃ ρ', bindTg ρ g d = some ρ' ∧ ∀ acc : List D, acc.length + (f d).length ≤ sizeLine → inner ρ' acc h = some (.ok (acc ++ f d) h)) (hl : (ds.flatMap f).length ≤ sizeLine) :
    compLoop2 J g inner ρ (J.size h + 1) 0 [] h = some (.ok (ds.flatMap f) h) := by
  rw [hz, comp2_from hat hb ds.length 0 [] (by omega) (by simpa using hl)]
  rfl
theorem at_lst {h : Hb} {m : Nat} {ds : List D} (e : h[m]? = some (.lst ds)) (i : Nat) : (It.lst m).at h i = some ds[i]? := by simp [It.at, items, e]
theorem size_lst {h : Hb} {m : Nat} {ds : List D} (e : h[m]? = some (.lst ds)) : (It.lst m).size h = ds.length := by simp [It.size, items, e]

/-! ### what holds of a row -/
theorem rv2 (n : Nat) (h : Hb) (r S W : Nat) (node mem a b x : D) (er : h[r]? = some (rnr S W)) (hx : noRef x = true)
    (hv : (FN (n + 1)).run Str.empty "value_of" [node, .ref (h.length + 1), .ref W] (h ++ [.lst cols2, frm h.length (.tup [a, b]) mem]) = some (.ok x (h ++ [.lst cols2, frm h.length (.tup [a, b]) mem]))) :
    (FN (n + 2)).run "Runner" "value" [.ref r, node, .tup [a, b], mem] h = some (.ok x h) := by
  have e1 : ∀ g : Hb, (h ++ g)[r]? = some (rnr S W) := fun g => at_old er
  have fi := frame_init n (h ++ [.lst cols2]) h.length (.tup [a, b]) mem
  simp only [List.append_assoc, List.length_append, List.length_cons, List.length_nil, List.cons_append, List.nil_append, Nat.zero_add] at fi
  simp only [cols2, frm] at fi hv
  rw [run_of k_value]
  simp [runDf, m_Runner_value, startEn, qE_var, qE_int, qE_bl, qE_non, qE_str, qE_gint, qE_gtup, qE_bin, qE_neg, qE_notv, qE_andv, qE_orv, qE_cmp, qE_ite, qE_call, qE_make, qE_meth, qE_blt, qE_isin, qE_bm, qE_fld, qE_idx, qE_slc, qE_tup, qE_lst, qE_dnewT, qE_dnewK, qE_disp, qE_lvals, qL_nil, qL_cons, qO_none, qO_some, qT_and, qT_or, qT_not, qT_ex, qT_cmp, qT_yes, qI_val, qI_rng, qI_rng1, qI_enum, qS_expr, qS_ret, qS_retN, qS_asg_tg, qS_asg_fld, qS_asg_sub, qS_par, qS_aug, qS_augS, qS_ifs, qS_raise, qS_tryO, qS_brk, qS_cont, qS_pass, qSs_nil, qSs_cons, qE_comp, qE_comp2, qS_fors, qS_forV, qS_whil, sB_ok, sB_exc, bnd_ok, bnd_exc, getVar, setVar, bindTg, cmpD, eqD, isD, inD, inTup, scalEq, scalar, flat, flatEq, isAny, tyOf, kitD, tru, nvRes, bltD, binD, idxD, ix_0, ix_1, ix_2, ix_3, ix_4, str_beq, Ev.newList, noX, okX, augD, nonNegIx, fits62, Tg.slots, Ev.wipe, str_inj, sizeLine_eq', e1, er, It.at, It.size, compLoop, nl1, nl2, nl3, ir0, ir1, ir2, ir3, rnr, List.lookup, fi, hv]
  exact gc_ext h _ x hx
def isT : D → Bool
  | .bl true => true
  | _ => false
theorem holds_of (n : Nat) (h : Hb) (r : Nat) (cond row x : D) (hx : (∃ b, x = .bl b) ∨ x = .non) (hv : (FN (n + 1)).run "Runner" "value" [.ref r, cond, row, .non] h = some (.ok x h)) (er : ∃ S W, h[r]? = some (rnr S W)) :
    (FN (n + 2)).run "Runner" "holds" [.ref r, cond, row] h = some (.ok (.bl (isT x)) h) := by
  obtain ⟨S, W, er⟩ := er
  rw [run_of k_holds]
  have hm : pg.hasM "Runner" "value" = true := by decide +kernel
  have hm' : (fnN pg WF (n + 1)).has "Runner" "value" = true := hm
  rcases hx with ⟨b, rfl⟩ | rfl
  · cases b <;> simp [runDf, m_Runner_holds, startEn, qE_var, qE_int, qE_bl, qE_non, qE_str, qE_gint, qE_gtup, qE_bin, qE_neg, qE_notv, qE_andv, qE_orv, qE_cmp, qE_ite, qE_call, qE_make, qE_meth, qE_blt, qE_isin, qE_bm, qE_fld, qE_idx, qE_slc, qE_tup, qE_lst, qE_dnewT, qE_dnewK, qE_disp, qE_lvals, qL_nil, qL_cons, qO_none, qO_some, qT_and, qT_or, qT_not, qT_ex, qT_cmp, qT_yes, qI_val, qI_rng, qI_rng1, qI_enum, qS_expr, qS_ret, qS_retN, qS_asg_tg, qS_asg_fld, qS_asg_sub, qS_par, qS_aug, qS_augS, qS_ifs, qS_raise, qS_tryO, qS_brk, qS_cont, qS_pass, qSs_nil, qSs_cons, qE_comp, qE_comp2, qS_fors, qS_forV, qS_whil, sB_ok, sB_exc, bnd_ok, bnd_exc, getVar, setVar, bindTg, cmpD, eqD, isD, inD, inTup, scalEq, scalar, flat, flatEq, isAny, tyOf, kitD, tru, nvRes, bltD, binD, idxD, ix_0, ix_1, ix_2, ix_3, ix_4, str_beq, Ev.newList, noX, okX, augD, nonNegIx, fits62, Tg.slots, Ev.wipe, str_inj, sizeLine_eq', er, rnr, List.lookup, hm', hv, gc_same, isT]
  · simp [runDf, m_Runner_holds, startEn, qE_var, qE_int, qE_bl, qE_non, qE_str, qE_gint, qE_gtup, qE_bin, qE_neg, qE_notv, qE_andv, qE_orv, qE_cmp, qE_ite, qE_call, qE_make, qE_meth, qE_blt, qE_isin, qE_bm, qE_fld, qE_idx, qE_slc, qE_tup, qE_lst, qE_dnewT, qE_dnewK, qE_disp, qE_lvals, qL_nil, qL_cons, qO_none, qO_some, qT_and, qT_or, qT_not, qT_ex, qT_cmp, qT_yes, qI_val, qI_rng, qI_rng1, qI_enum, qS_expr, qS_ret, qS_retN, qS_asg_tg, qS_asg_fld, qS_asg_sub, qS_par, qS_aug, qS_augS, qS_ifs, qS_raise, qS_tryO, qS_brk, qS_cont, qS_pass, qSs_nil, qSs_cons, qE_comp, qE_comp2, qS_fors, qS_forV, qS_whil, sB_ok, sB_exc, bnd_ok, bnd_exc, getVar, setVar, bindTg, cmpD, eqD, isD, inD, inTup, scalEq, scalar, flat, flatEq, isAny, tyOf, kitD, tru, nvRes, bltD, binD, idxD, ix_0, ix_1, ix_2, ix_3, ix_4, str_beq, Ev.newList, noX, okX, augD, nonNegIx, fits62, Tg.slots, Ev.wipe, str_inj, sizeLine_eq', er, rnr, List.lookup, hm', hv, gc_same, isT]
def condEq : D := .tup [.str "binary", .str "=", .tup [.str "column", .non, .str "1"], .tup [.str "column", .non, .str "3"]]
theorem holds_eq (n : Nat) (h : Hb) (r S W : Nat) (er : h[r]? = some (rnr S W)) (a c : D) (i j : Int) : (FN (n + 6)).run "Runner" "holds" [.ref r, condEq, .tup [a, .int i, c, .int j]] h = some (.ok (.bl (decide (i = j))) h) := by
  have hv := value_eq named4_1 named4_3 n (h ++ [.lst cols4, frm h.length (.tup [a, .int i, c, .int j]) .non]) (h.length + 1) h.length W [a, .int i, c, .int j] .non i j (by rw [at_new]; rfl) (by rw [at_new0]; rfl) rfl rfl
  have v := rv4 (n + 3) h r S W condEq .non a (.int i) c (.int j) _ er rfl hv
  have := holds_of (n + 4) h r condEq _ _ (.inl ⟨_, rfl⟩) v ⟨S, W, er⟩
  rw [this]
  cases decide (i = j) <;> rfl
theorem holds_lit (n : Nat) (h : Hb) (r S W : Nat) (er : h[r]? = some (rnr S W)) (a b c d x : D) (hx : (∃ b, x = .bl b) ∨ x = .non) : (FN (n + 3)).run "Runner" "holds" [.ref r, .tup [.str "literal", x], .tup [a, b, c, d]] h = some (.ok (.bl (isT x)) h) := by
  have nr : noRef x = true := by rcases hx with ⟨b, rfl⟩ | rfl <;> rfl
  have hv := value_lit n (h ++ [.lst cols4, frm h.length (.tup [a, b, c, d]) .non]) (h.length + 1) W x nr
  exact holds_of (n + 1) h r _ _ x hx (rv4 n h r S W _ .non a b c d x er nr hv) ⟨S, W, er⟩
end Pl

set_option Elab.async false
set_option linter.all false
set_option maxRecDepth 100000
set_option autoImplicit false
set_option maxHeartbeats 0
/-! Pl4: plain steps: pairs of rows. -/
namespace Pl
open PySem Ev PK Qe

theorem k_meets : keys.lookup (("Runner" : Str), ("meets" : Str)) = some m_Runner_meets := by rfl
theorem k_joined : keys.lookup (("Runner" : Str), ("joined" : Str)) = some m_Runner_joined := by rfl
/-- the slots of a turn of the inner loop -/
def env2 (ρ : En) (a b : Nat) (p q : D) : En := setVar (Ev.wipe (setVar (Ev.wipe ρ ([b] ++ [a])) a p) [b]) b q
def addT : D → D → D
  | .tup xs, .tup ys => .tup (xs ++ ys)
  | d, _ => d
def isTup : D → Bool
  | .tup xs => !xs.isEmpty && decide (xs.length ≤ 8)
  | _ => false
theorem isTup_inv {d : D} (h : isTup d = true) : ∃ xs, d = .tup xs ∧ xs ≠ [] ∧ xs.length ≤ 8 := by
  cases d <;> simp [isTup] at h
  exact ⟨_, rfl, h.1, h.2⟩
/-- [row + other for row in first for other in second if ..] -/
theorem ev_pairs {F : Fn} {ρ : En} {h : Hb} {x y a b m1 m2 : Nat} {as bs : List D} {c : Tx} {P : D → D → Bool} (hx : getVar ρ x = some (.ref m1)) (h1 : h[m1]? = some (.lst as)) (h2 : h[m2]? = some (.lst bs))
    (hy : ∀ p, getVar (setVar (Ev.wipe ρ ([b] ++ [a])) a p) y = some (.ref m2)) (ta : ∀ d ∈ as, isTup d = true) (tb : ∀ d ∈ bs, isTup d = true)
    (ga : ∀ p q, getVar (env2 ρ a b p q) a = some p) (gb : ∀ p q, getVar (env2 ρ a b p q) b = some q)
    (hc : ∀ p ∈ as, ∀ q ∈ bs, evT F c (env2 ρ a b p q) h = some (.ok (P p q) h)) (hl2 : (as.flatMap fun p => (bs.filter (P p)).map (addT p)).length ≤ sizeLine) :
    evE F (.comp2 (.nm a) (.val (.var x)) (.nm b) (.val (.var y)) c (.bin .Add (.var a) (.var b))) ρ h = Ev.newList (as.flatMap fun p => (bs.filter (P p)).map (addT p)) h := by
  have it1 : evI F (.val (.var x)) ρ h = some (.ok (.lst m1) h) := by
    rw [qI_val, qE_var, hx]; simp [bnd_ok, items, h1]
  rw [qE_comp2, it1, bnd_ok]
  have key := comp2_all (J := .lst m1) (g := .nm a) (inner := fun ρ' acc h' => bnd (evI F (.val (.var y)) ρ' h') fun J2 h2 => compLoop J2 (.nm b) (evT F c) (evE F (.bin .Add (.var a) (.var b))) (Ev.wipe ρ' (Tg.nm b).slots) (J2.size h2 + 1) 0 acc h2)
    (ρ := Ev.wipe ρ ((Tg.nm b).slots ++ (Tg.nm a).slots)) (h := h) (ds := as) (f := fun p => (bs.filter (P p)).map (addT p)) (at_lst h1) (size_lst h1) (fun p hp => ⟨_, rfl, fun acc hacc => ?_⟩) hl2
  · rw [key]
    rfl
  · have it2 : evI F (.val (.var y)) (setVar (Ev.wipe ρ ((Tg.nm b).slots ++ (Tg.nm a).slots)) a p) h = some (.ok (.lst m2) h) := by
      rw [qI_val, qE_var, show getVar (setVar (Ev.wipe ρ ((Tg.nm b).slots ++ (Tg.nm a).slots)) a p) y = some (.ref m2) from hy p]; simp [bnd_ok, items, h2]
    simp only [it2, bnd_ok]
    refine comp_all (J := .lst m2) (g := .nm b) (p := P p) (f := addT p) (at_lst h2) (size_lst h2) (fun q hq => ⟨env2 ρ a b p q, rfl, hc p hp q hq, fun _ => ?_⟩) acc (by simpa using hacc)
    obtain ⟨xs, rfl, x1, x2⟩ := isTup_inv (ta p hp)
    obtain ⟨ys, rfl, y1, y2⟩ := isTup_inv (tb q hq)
    have ea : evE F (.var a) (env2 ρ a b (.tup xs) (.tup ys)) h = some (.ok (.tup xs) h) := by rw [qE_var, ga]
    have eb : evE F (.var b) (env2 ρ a b (.tup xs) (.tup ys)) h = some (.ok (.tup ys) h) := by rw [qE_var, gb]
    rw [qE_bin, ea, bnd_ok, eb, bnd_ok]
    simp only [binD]
    rw [if_pos ⟨x1, by rw [sizeLine_eq']; omega⟩]
    rfl
/-- rows of an id and an integer -/
def Row2 (d : D) : Prop := ∃ s i, d = .tup [.str s, .int i]
def col1 : D → Int
  | .tup [_, .int i] => i
  | _ => 0
theorem Row2.tup {d : D} (r : Row2 d) : isTup d = true := by obtain ⟨s, i, rfl⟩ := r; rfl
theorem meets_eq (n : Nat) (h : Hb) (r : Nat) (a c : D) (i j : Int) : (FN (n + 3)).run "Runner" "meets" [.ref r, .tup [.tup [.int 1, .int 3]], .tup [a, .int i, c, .int j]] h = some (.ok (.bl (decide (i = j))) h) := by
  rw [run_of k_meets]
  by_cases e : i = j
  · subst e
    simp [runDf, m_Runner_meets, startEn, qE_var, qE_int, qE_bl, qE_non, qE_str, qE_gint, qE_gtup, qE_bin, qE_neg, qE_notv, qE_andv, qE_orv, qE_cmp, qE_ite, qE_call, qE_make, qE_meth, qE_blt, qE_isin, qE_bm, qE_fld, qE_idx, qE_slc, qE_tup, qE_lst, qE_dnewT, qE_dnewK, qE_disp, qE_lvals, qL_nil, qL_cons, qO_none, qO_some, qT_and, qT_or, qT_not, qT_ex, qT_cmp, qT_yes, qI_val, qI_rng, qI_rng1, qI_enum, qS_expr, qS_ret, qS_retN, qS_asg_tg, qS_asg_fld, qS_asg_sub, qS_par, qS_aug, qS_augS, qS_ifs, qS_raise, qS_tryO, qS_brk, qS_cont, qS_pass, qSs_nil, qSs_cons, qE_comp, qE_comp2, qS_fors, qS_forV, qS_whil, sB_ok, sB_exc, bnd_ok, bnd_exc, getVar, setVar, bindTg, cmpD, eqD, isD, inD, inTup, scalEq, scalar, flat, flatEq, isAny, tyOf, kitD, tru, nvRes, bltD, binD, idxD, ix_0, ix_1, ix_2, ix_3, ix_4, str_beq, Ev.newList, noX, okX, augD, nonNegIx, fits62, Tg.slots, Ev.wipe, str_inj, sizeLine_eq', It.at, It.size, forLoop, same_int, gc_same]
  · simp [runDf, m_Runner_meets, startEn, qE_var, qE_int, qE_bl, qE_non, qE_str, qE_gint, qE_gtup, qE_bin, qE_neg, qE_notv, qE_andv, qE_orv, qE_cmp, qE_ite, qE_call, qE_make, qE_meth, qE_blt, qE_isin, qE_bm, qE_fld, qE_idx, qE_slc, qE_tup, qE_lst, qE_dnewT, qE_dnewK, qE_disp, qE_lvals, qL_nil, qL_cons, qO_none, qO_some, qT_and, qT_or, qT_not, qT_ex, qT_cmp, qT_yes, qI_val, qI_rng, qI_rng1, qI_enum, qS_expr, qS_ret, qS_retN, qS_asg_tg, qS_asg_fld, qS_asg_sub, qS_par, qS_aug, qS_augS, qS_ifs, qS_raise, qS_tryO, qS_brk, qS_cont, qS_pass, qSs_nil, qSs_cons, qE_comp, qE_comp2, qS_fors, qS_forV, qS_whil, sB_ok, sB_exc, bnd_ok, bnd_exc, getVar, setVar, bindTg, cmpD, eqD, isD, inD, inTup, scalEq, scalar, flat, flatEq, isAny, tyOf, kitD, tru, nvRes, bltD, binD, idxD, ix_0, ix_1, ix_2, ix_3, ix_4, str_beq, Ev.newList, noX, okX, augD, nonNegIx, fits62, Tg.slots, Ev.wipe, str_inj, sizeLine_eq', It.at, It.size, forLoop, same_int, gc_same, e]
def pairsP (as bs : List D) (P : D → D → Bool) : List D := as.flatMap fun p => (bs.filter (P p)).map (addT p)
def eqC (p q : D) : Bool := decide (col1 p = col1 q)
theorem gc_raise (h : Hb) (c : Str) : gcX h.length h c [] h = .exc c [] h := by
  have := gcX_ext h [] c
  simpa using this
theorem small_len {n : Nat} (h : n ≤ 2000) : small64 (n : Int) = true := by
  simp only [small64, decide_eq_true_eq]
  have e : (2 : Int) ^ 64 = 18446744073709551616 := by decide
  rw [e]; omega
end Pl

set_option Elab.async false
set_option linter.all false
set_option maxRecDepth 100000
set_option autoImplicit false
set_option maxHeartbeats 0
/-! Pl5: plain steps: the pairs of two sources. -/
namespace Pl
open PySem Ev PK Qe
theorem ifs_t {F : Fn} {U : Above} {Wf : Nat} {a b c} {ρ : En} {h h1 : Hb} (e : evT F c ρ h = some (.ok true h1)) : evS F U Wf (.ifs c a b) ρ h = evSs F U Wf a ρ h1 := by
  rw [qS_ifs, e]; rfl
theorem ifs_f {F : Fn} {U : Above} {Wf : Nat} {a b c} {ρ : En} {h h1 : Hb} (e : evT F c ρ h = some (.ok false h1)) : evS F U Wf (.ifs c a b) ρ h = evSs F U Wf b ρ h1 := by
  rw [qS_ifs, e]; rfl
theorem ss_exc {F : Fn} {U : Above} {Wf : Nat} {s ss} {ρ ρ' : En} {h h' : Hb} {c : Str} {fs} (e : evS F U Wf s ρ h = some (.exc c fs ρ' h')) : evSs F U Wf (.cons s ss) ρ h = some (.exc c fs ρ' h') := by
  rw [qSs_cons, e]
theorem ss_ret {F : Fn} {U : Above} {Wf : Nat} {s ss} {ρ : En} {h h' : Hb} {d : D} (e : evS F U Wf s ρ h = some (.ret d h')) : evSs F U Wf (.cons s ss) ρ h = some (.ret d h') := by
  rw [qSs_cons, e]
theorem ss_nx {F : Fn} {U : Above} {Wf : Nat} {s ss} {ρ ρ' : En} {h h' : Hb} (e : evS F U Wf s ρ h = some (.nx ρ' h')) : evSs F U Wf (.cons s ss) ρ h = evSs F U Wf ss ρ' h' := by
  rw [qSs_cons, e]
theorem len_lst {F : Fn} {ρ : En} {h : Hb} {x m : Nat} {as : List D} (hx : getVar ρ x = some (.ref m)) (h1 : h[m]? = some (.lst as)) : evE F (.blt .len (.cons (.var x) .nil)) ρ h = some (.ok (.int as.length) h) := by
  rw [qE_blt, qL_cons, qE_var, hx]; simp [qL_nil, bnd_ok, bltD, items, h1, nvRes]
/-- the test of the cross plan -/
theorem cross_test {F : Fn} {ρ : En} {h : Hb} {x y m1 m2 : Nat} {M : Int} {nm : Str} {as bs : List D} (hx : getVar ρ x = some (.ref m1)) (h1 : h[m1]? = some (.lst as)) (hy : getVar ρ y = some (.ref m2)) (h2 : h[m2]? = some (.lst bs)) (sl : small64 (as.length : Int) = true) :
    evT F (.cmp .Gt (.bin .Mult (.blt .len (.cons (.var x) .nil)) (.blt .len (.cons (.var y) .nil))) (.gint nm M)) ρ h = some (.ok (decide (M < (as.length : Int) * (bs.length : Int))) h) := by
  rw [qT_cmp, qE_bin, len_lst hx h1, bnd_ok, len_lst hy h2, bnd_ok]
  simp only [binD]
  rw [if_pos (Or.inl sl)]
  simp only [nvRes, bnd_ok, qE_gint, cmpD]
/-- the test of a plan's word -/
theorem word_test {F : Fn} {ρ : En} {h : Hb} {x : Nat} {w v : Str} {ds : List D} (hx : getVar ρ x = some (.tup (.str w :: ds))) : evT F (.cmp .Eq (.idx (.var x) (.int 0)) (.str v)) ρ h = some (.ok (decide (w = v)) h) := by
  rw [qT_cmp, qE_idx, qE_var, hx]
  simp [bnd_ok, qE_int, idxD, ix_0, qE_str, cmpD, eqD, scalEq, scalar, str_beq, nvRes]
theorem joined_crossX (n : Nat) (h : Hb) (r m1 m2 : Nat) (as bs : List D) (pa pb : D) (h1 : h[m1]? = some (.lst as)) (h2 : h[m2]? = some (.lst bs)) (sl : small64 (as.length : Int) = true) (big : (2000 : Int) < (as.length : Int) * (bs.length : Int)) :
    (FN (n + 1)).run "Runner" "joined" [.ref r, .tup [.str "cross", pa, pb], .ref m1, .ref m2] h = some (.exc "NoPlan" [] h) := by
  rw [run_of k_joined]
  have e1 := word_test (F := FN n) (ρ := [some (.ref r), some (.tup [.str "cross", pa, pb]), some (.ref m1), some (.ref m2), none, none, none, none]) (h := h) (x := 1) (v := "cross") rfl
  have e2 := cross_test (F := FN n) (ρ := [some (.ref r), some (.tup [.str "cross", pa, pb]), some (.ref m1), some (.ref m2), none, none, none, none]) (h := h) (x := 2) (y := 3) (M := 2000) (nm := "MOST_ROWS") rfl h1 rfl h2 sl
  rw [decide_eq_true big] at e2
  rw [decide_eq_true rfl] at e1
  have e3 : evSs (FN n) pg.above WF m_Runner_joined.body [some (.ref r), some (.tup [.str "cross", pa, pb]), some (.ref m1), some (.ref m2), none, none, none, none] h = some (.exc "NoPlan" [] [some (.ref r), some (.tup [.str "cross", pa, pb]), some (.ref m1), some (.ref m2), none, none, none, none] h) :=
    ss_exc ((ifs_t e1).trans (ss_exc ((ifs_t e2).trans (ss_exc qS_raise))))
  show (match evSs (FN n) pg.above WF m_Runner_joined.body [some (.ref r), some (.tup [.str "cross", pa, pb]), some (.ref m1), some (.ref m2), none, none, none, none] h with
    | some (.nx _ h') => some (gc h.length h .non h')
    | some (.ret v h') => some (gc h.length h v h')
    | some (.exc c fs _ h') => some (gcX h.length h c fs h')
    | _ => none) = _
  rw [e3]
  simp only [gc_raise]
theorem run_ret {n : Nat} {d : Df} {ds : List D} {h h' : Hb} {v : D} (hl : ds.length = d.pars.length) (e : evSs (FN n) pg.above WF d.body (startEn d ds) h = some (.ret v h')) : runDf (FN n) pg.above WF d ds h = some (gc h.length h v h') := by
  unfold runDf
  rw [if_pos hl, e]
theorem run_exc {n : Nat} {d : Df} {ds : List D} {h h' : Hb} {ρ : En} {c : Str} (hl : ds.length = d.pars.length) (e : evSs (FN n) pg.above WF d.body (startEn d ds) h = some (.exc c [] ρ h')) : runDf (FN n) pg.above WF d ds h = some (gcX h.length h c [] h') := by
  unfold runDf
  rw [if_pos hl, e]
theorem joined_crossZ (n : Nat) (h : Hb) (r m1 m2 : Nat) (as bs : List D) (pa pb : D) (h1 : h[m1]? = some (.lst as)) (h2 : h[m2]? = some (.lst bs)) (sl : small64 (as.length : Int) = true) (big : ¬ (2000 : Int) < (as.length : Int) * (bs.length : Int)) (ra : ∀ d ∈ as, Row2 d) (rb : ∀ d ∈ bs, Row2 d) (hs : (pairsP as bs fun _ _ => true).length ≤ sizeLine) :
    (FN (n + 1)).run "Runner" "joined" [.ref r, .tup [.str "cross", pa, pb], .ref m1, .ref m2] h = some (.ok (.ref h.length) (h ++ [.lst (pairsP as bs fun _ _ => true)])) := by
  rw [run_of k_joined]
  have e1 := word_test (F := FN n) (ρ := [some (.ref r), some (.tup [.str "cross", pa, pb]), some (.ref m1), some (.ref m2), none, none, none, none]) (h := h) (x := 1) (v := "cross") rfl
  have e2 := cross_test (F := FN n) (ρ := [some (.ref r), some (.tup [.str "cross", pa, pb]), some (.ref m1), some (.ref m2), none, none, none, none]) (h := h) (x := 2) (y := 3) (M := 2000) (nm := "MOST_ROWS") rfl h1 rfl h2 sl
  rw [decide_eq_false big] at e2
  rw [decide_eq_true rfl] at e1
  have ev := ev_pairs (F := FN n) (ρ := [some (.ref r), some (.tup [.str "cross", pa, pb]), some (.ref m1), some (.ref m2), none, none, none, none]) (h := h) (x := 2) (y := 3) (a := 6) (b := 7) (c := .yes) (P := fun _ _ => true) rfl h1 h2 (fun _ => rfl)
      (fun d hd => (ra d hd).tup) (fun d hd => (rb d hd).tup) (fun _ _ => rfl) (fun _ _ => rfl) (fun p _ q _ => by rw [qT_yes]) hs
  have er : evS (FN n) pg.above WF (.ret (.comp2 (.nm 6) (.val (.var 2)) (.nm 7) (.val (.var 3)) .yes (.bin .Add (.var 6) (.var 7)))) [some (.ref r), some (.tup [.str "cross", pa, pb]), some (.ref m1), some (.ref m2), none, none, none, none] h = some (.ret (.ref h.length) (h ++ [.lst (pairsP as bs fun _ _ => true)])) := by
    rw [qS_ret, ev]; rfl
  have e3 : evSs (FN n) pg.above WF m_Runner_joined.body (startEn m_Runner_joined [.ref r, .tup [.str "cross", pa, pb], .ref m1, .ref m2]) h = some (.ret (.ref h.length) (h ++ [.lst (pairsP as bs fun _ _ => true)])) :=
    ss_ret ((ifs_t e1).trans ((ss_nx (((ifs_f e2).trans qSs_nil))).trans (ss_ret er)))
  rw [run_ret (d := m_Runner_joined) rfl e3]
  exact congrArg some (gc_list0 h _)
end Pl

set_option Elab.async false
set_option linter.all false
set_option maxRecDepth 100000
set_option autoImplicit false
set_option maxHeartbeats 0
/-! Pl6: plain steps: joins under a condition. -/
namespace Pl
open PySem Ev PK Qe
theorem ev_meth {n : Nat} {ρ : En} {h : Hb} {r o S W : Nat} {m : Str} {es : ExL} {ds : List D} (hr : getVar ρ o = some (.ref r)) (er : h[r]? = some (rnr S W)) (hf : ∀ fs, rnr S W = .ins "Runner" fs → (fs.lookup m).isNone = true) (hm : pg.hasM "Runner" m = true)
    (ea : evL (FN n) es ρ h = some (.ok ds h)) : evE (FN n) (.meth (.var o) m es) ρ h = (FN n).run "Runner" m (.ref r :: ds) h := by
  have hm' : (fnN pg WF n).has "Runner" m = true := by cases n <;> exact hm
  rw [qE_meth, qE_var, hr]
  simp only [noX, bnd_ok, er, rnr]
  rw [if_pos ⟨hf _ rfl, hm'⟩, ea, bnd_ok]
theorem ev_idx {F : Fn} {ρ : En} {h : Hb} {x : Nat} {d e : D} {i : Int} (hx : getVar ρ x = some d) (hi : idxD h d (.int i) = some e) : evE F (.idx (.var x) (.int i)) ρ h = some (.ok e h) := by
  rw [qE_idx, qE_var, hx]
  simp only [bnd_ok, qE_int, hi]
theorem ev_add {F : Fn} {ρ : En} {h : Hb} {a b : Nat} {p q : D} (ha : getVar ρ a = some p) (hb : getVar ρ b = some q) (tp : isTup p = true) (tq : isTup q = true) : evE F (.bin .Add (.var a) (.var b)) ρ h = some (.ok (addT p q) h) := by
  obtain ⟨xs, rfl, x1, x2⟩ := isTup_inv tp
  obtain ⟨ys, rfl, y1, y2⟩ := isTup_inv tq
  rw [qE_bin, qE_var, ha]
  simp only [bnd_ok, qE_var, hb, binD]
  rw [if_pos ⟨x1, by rw [sizeLine_eq']; omega⟩]
  rfl
theorem evL2 {F : Fn} {ρ : En} {h : Hb} {a b : Ex} {d e : D} (ea : evE F a ρ h = some (.ok d h)) (eb : evE F b ρ h = some (.ok e h)) : evL F (.cons a (.cons b .nil)) ρ h = some (.ok [d, e] h) := by
  rw [qL_cons, ea, bnd_ok, qL_cons, eb, bnd_ok, qL_nil]; rfl
/-- the test of a joined pair: holds or meets -/
theorem pair_test {n : Nat} {ρ : En} {h : Hb} {r S W : Nat} {m w : Str} {c p q : D} {rest : List D} {v : Bool} {a b : Nat} (h0 : getVar ρ 0 = some (.ref r)) (hp : getVar ρ 1 = some (.tup (.str w :: c :: rest))) (ha : getVar ρ a = some p) (hb : getVar ρ b = some q)
    (er : h[r]? = some (rnr S W)) (hf : ∀ fs, rnr S W = .ins "Runner" fs → (fs.lookup m).isNone = true) (hm : pg.hasM "Runner" m = true) (tp : isTup p = true) (tq : isTup q = true)
    (hc : (FN n).run "Runner" m [.ref r, c, addT p q] h = some (.ok (.bl v) h)) :
    evT (FN n) (.ex (.meth (.var 0) m (.cons (.idx (.var 1) (.int 1)) (.cons (.bin .Add (.var a) (.var b)) .nil)))) ρ h = some (.ok v h) := by
  rw [qT_ex, ev_meth h0 er hf hm (evL2 (ev_idx (e := c) hp (by simp [idxD, ix_1])) (ev_add ha hb tp tq)), hc, bnd_ok]
  simp only [tru]
theorem has_holds : pg.hasM "Runner" "holds" = true := by decide +kernel
theorem has_meets : pg.hasM "Runner" "meets" = true := by decide +kernel
theorem joined_join (n : Nat) (h : Hb) (r m1 m2 S W : Nat) (as bs : List D) (c : D) (rest : List D) (P : D → D → Bool) (er : h[r]? = some (rnr S W)) (h1 : h[m1]? = some (.lst as)) (h2 : h[m2]? = some (.lst bs)) (ta : ∀ d ∈ as, isTup d = true) (tb : ∀ d ∈ bs, isTup d = true)
    (hc : ∀ p ∈ as, ∀ q ∈ bs, (FN n).run "Runner" "holds" [.ref r, c, addT p q] h = some (.ok (.bl (P p q)) h)) (hs : (pairsP as bs P).length ≤ sizeLine) :
    (FN (n + 1)).run "Runner" "joined" [.ref r, .tup (.str "join" :: c :: rest), .ref m1, .ref m2] h = some (.ok (.ref h.length) (h ++ [.lst (pairsP as bs P)])) := by
  rw [run_of k_joined]
  have w1 := word_test (F := FN n) (ρ := [some (.ref r), some (.tup (.str "join" :: c :: rest)), some (.ref m1), some (.ref m2), none, none, none, none]) (h := h) (x := 1) (v := "cross") rfl
  have w2 := word_test (F := FN n) (ρ := [some (.ref r), some (.tup (.str "join" :: c :: rest)), some (.ref m1), some (.ref m2), none, none, none, none]) (h := h) (x := 1) (v := "join") rfl
  rw [decide_eq_false (by decide)] at w1
  rw [decide_eq_true rfl] at w2
  have ev := ev_pairs (F := FN n) (ρ := [some (.ref r), some (.tup (.str "join" :: c :: rest)), some (.ref m1), some (.ref m2), none, none, none, none]) (h := h) (x := 2) (y := 3) (a := 6) (b := 7) (P := P) (c := .ex (.meth (.var 0) "holds" (.cons (.idx (.var 1) (.int 1)) (.cons (.bin .Add (.var 6) (.var 7)) .nil)))) rfl h1 h2 (fun _ => rfl)
      ta tb (fun _ _ => rfl) (fun _ _ => rfl) (fun p hp q hq => pair_test rfl rfl rfl rfl er (by intro fs e; cases e; rfl) has_holds (ta p hp) (tb q hq) (hc p hp q hq)) hs
  have er' : ∀ {ss}, evSs (FN n) pg.above WF (.cons (.ret (.comp2 (.nm 6) (.val (.var 2)) (.nm 7) (.val (.var 3)) (.ex (.meth (.var 0) "holds" (.cons (.idx (.var 1) (.int 1)) (.cons (.bin .Add (.var 6) (.var 7)) .nil)))) (.bin .Add (.var 6) (.var 7)))) ss) [some (.ref r), some (.tup (.str "join" :: c :: rest)), some (.ref m1), some (.ref m2), none, none, none, none] h = some (.ret (.ref h.length) (h ++ [.lst (pairsP as bs P)])) := by
    intro ss; exact ss_ret (by rw [qS_ret, ev]; rfl)
  have e3 : evSs (FN n) pg.above WF m_Runner_joined.body (startEn m_Runner_joined [.ref r, .tup (.str "join" :: c :: rest), .ref m1, .ref m2]) h = some (.ret (.ref h.length) (h ++ [.lst (pairsP as bs P)])) :=
    (ss_nx ((ifs_f w1).trans qSs_nil)).trans (ss_ret ((ifs_t w2).trans er'))
  rw [run_ret (d := m_Runner_joined) rfl e3]
  exact congrArg some (gc_list0 h _)
end Pl

set_option Elab.async false
set_option linter.all false
set_option maxRecDepth 100000
set_option autoImplicit false
set_option maxHeartbeats 0
/-! Pl7: plain steps: match and all. -/
namespace Pl
open PySem Ev PK Qe
theorem wordF {F : Fn} {ρ : En} {h : Hb} {x : Nat} {w v : Str} {ds : List D} (hx : getVar ρ x = some (.tup (.str w :: ds))) (ne : w ≠ v) : evT F (.cmp .Eq (.idx (.var x) (.int 0)) (.str v)) ρ h = some (.ok false h) := by
  rw [word_test hx, decide_eq_false ne]
theorem wordT {F : Fn} {ρ : En} {h : Hb} {x : Nat} {w : Str} {ds : List D} (hx : getVar ρ x = some (.tup (.str w :: ds))) : evT F (.cmp .Eq (.idx (.var x) (.int 0)) (.str w)) ρ h = some (.ok true h) := by
  rw [word_test hx, decide_eq_true rfl]
/-- a statement whose test is false and which has no else -/
theorem skip {F : Fn} {U : Above} {Wf : Nat} {a c ss} {ρ : En} {h : Hb} (e : evT F c ρ h = some (.ok false h)) : evSs F U Wf (.cons (.ifs c a .nil) ss) ρ h = evSs F U Wf ss ρ h := ss_nx ((ifs_f e).trans qSs_nil)
theorem hit {F : Fn} {U : Above} {Wf : Nat} {a b c ss} {ρ : En} {h h' : Hb} {d : D} (e : evT F c ρ h = some (.ok true h)) (er : evSs F U Wf a ρ h = some (.ret d h')) : evSs F U Wf (.cons (.ifs c a b) ss) ρ h = some (.ret d h') := ss_ret ((ifs_t e).trans er)
theorem ret_ev {F : Fn} {U : Above} {Wf : Nat} {e ss} {ρ : En} {h h' : Hb} {d : D} (ev : evE F e ρ h = some (.ok d h')) : evSs F U Wf (.cons (.ret e) ss) ρ h = some (.ret d h') := ss_ret (by rw [qS_ret, ev]; rfl)
theorem ret_exc {F : Fn} {U : Above} {Wf : Nat} {e ss} {ρ : En} {h h' : Hb} {c : Str} {fs} (ev : evE F e ρ h = some (.exc c fs h')) : evSs F U Wf (.cons (.ret e) ss) ρ h = some (.exc c fs ρ h') := ss_exc (by rw [qS_ret, ev]; rfl)
theorem joined_all (n : Nat) (h : Hb) (r m1 m2 : Nat) (as bs : List D) (rest : List D) (h1 : h[m1]? = some (.lst as)) (h2 : h[m2]? = some (.lst bs)) (hs : as.length + bs.length ≤ sizeLine) :
    (FN (n + 1)).run "Runner" "joined" [.ref r, .tup (.str "all" :: rest), .ref m1, .ref m2] h = some (.ok (.ref h.length) (h ++ [.lst (as ++ bs)])) := by
  rw [run_of k_joined]
  have ev : evE (FN n) (.bin .Add (.var 2) (.var 3)) [some (.ref r), some (.tup (.str "all" :: rest)), some (.ref m1), some (.ref m2), none, none, none, none] h = some (.ok (.ref h.length) (h ++ [.lst (as ++ bs)])) := by
    rw [qE_bin, qE_var, show getVar [some (.ref r), some (.tup (.str "all" :: rest)), some (.ref m1), some (.ref m2), none, none, none, none] 2 = some (.ref m1) from rfl]
    simp only [bnd_ok, qE_var, show getVar [some (.ref r), some (.tup (.str "all" :: rest)), some (.ref m1), some (.ref m2), none, none, none, none] 3 = some (.ref m2) from rfl, binD, h1, h2]
    rw [if_pos hs]; rfl
  have e3 : evSs (FN n) pg.above WF m_Runner_joined.body (startEn m_Runner_joined [.ref r, .tup (.str "all" :: rest), .ref m1, .ref m2]) h = some (.ret (.ref h.length) (h ++ [.lst (as ++ bs)])) :=
    (skip (wordF rfl (by decide))).trans ((skip (wordF rfl (by decide))).trans ((skip (wordF rfl (by decide))).trans ((skip (wordF rfl (by decide))).trans (hit (wordT rfl) (ret_ev ev)))))
  rw [run_ret (d := m_Runner_joined) rfl e3]
  exact congrArg some (gc_list0 h _)
theorem joined_match (n : Nat) (h : Hb) (r m1 m2 S W : Nat) (as bs : List D) (c : D) (rest : List D) (P : D → D → Bool) (er : h[r]? = some (rnr S W)) (h1 : h[m1]? = some (.lst as)) (h2 : h[m2]? = some (.lst bs)) (ta : ∀ d ∈ as, isTup d = true) (tb : ∀ d ∈ bs, isTup d = true)
    (hc : ∀ p ∈ as, ∀ q ∈ bs, (FN n).run "Runner" "meets" [.ref r, c, addT p q] h = some (.ok (.bl (P p q)) h)) (hs : (pairsP as bs P).length ≤ sizeLine) :
    (FN (n + 1)).run "Runner" "joined" [.ref r, .tup (.str "match" :: c :: rest), .ref m1, .ref m2] h = some (.ok (.ref h.length) (h ++ [.lst (pairsP as bs P)])) := by
  rw [run_of k_joined]
  have w1 := word_test (F := FN n) (ρ := [some (.ref r), some (.tup (.str "match" :: c :: rest)), some (.ref m1), some (.ref m2), none, none, none, none]) (h := h) (x := 1) (v := "cross") rfl
  have w2 := word_test (F := FN n) (ρ := [some (.ref r), some (.tup (.str "match" :: c :: rest)), some (.ref m1), some (.ref m2), none, none, none, none]) (h := h) (x := 1) (v := "join") rfl
  have w3 := word_test (F := FN n) (ρ := [some (.ref r), some (.tup (.str "match" :: c :: rest)), some (.ref m1), some (.ref m2), none, none, none, none]) (h := h) (x := 1) (v := "match") rfl
  rw [decide_eq_false (by decide)] at w1
  rw [decide_eq_false (by decide)] at w2
  rw [decide_eq_true rfl] at w3
  have ev := ev_pairs (F := FN n) (ρ := [some (.ref r), some (.tup (.str "match" :: c :: rest)), some (.ref m1), some (.ref m2), none, none, none, none]) (h := h) (x := 2) (y := 3) (a := 6) (b := 7) (P := P) (c := .ex (.meth (.var 0) "meets" (.cons (.idx (.var 1) (.int 1)) (.cons (.bin .Add (.var 6) (.var 7)) .nil)))) rfl h1 h2 (fun _ => rfl)
      ta tb (fun _ _ => rfl) (fun _ _ => rfl) (fun p hp q hq => pair_test rfl rfl rfl rfl er (by intro fs e; cases e; rfl) has_meets (ta p hp) (tb q hq) (hc p hp q hq)) hs
  have er' : ∀ {ss}, evSs (FN n) pg.above WF (.cons (.ret (.comp2 (.nm 6) (.val (.var 2)) (.nm 7) (.val (.var 3)) (.ex (.meth (.var 0) "meets" (.cons (.idx (.var 1) (.int 1)) (.cons (.bin .Add (.var 6) (.var 7)) .nil)))) (.bin .Add (.var 6) (.var 7)))) ss) [some (.ref r), some (.tup (.str "match" :: c :: rest)), some (.ref m1), some (.ref m2), none, none, none, none] h = some (.ret (.ref h.length) (h ++ [.lst (pairsP as bs P)])) := by
    intro ss; exact ss_ret (by rw [qS_ret, ev]; rfl)
  have e3 : evSs (FN n) pg.above WF m_Runner_joined.body (startEn m_Runner_joined [.ref r, .tup (.str "match" :: c :: rest), .ref m1, .ref m2]) h = some (.ret (.ref h.length) (h ++ [.lst (pairsP as bs P)])) :=
    (ss_nx ((ifs_f w1).trans qSs_nil)).trans ((ss_nx ((ifs_f w2).trans qSs_nil)).trans (ss_ret ((ifs_t w3).trans er')))
  rw [run_ret (d := m_Runner_joined) rfl e3]
  exact congrArg some (gc_list0 h _)
end Pl

set_option Elab.async false
set_option linter.all false
set_option maxRecDepth 100000
set_option autoImplicit false
set_option maxHeartbeats 0
/-! Pl8: plain steps: what lies below a plan. -/
namespace Pl
open PySem Ev PK Qe
theorem k_is_plan : keys.lookup (Str.empty, ("is_plan" : Str)) = some f_is_plan := by rfl
theorem k_below : keys.lookup (Str.empty, ("below" : Str)) = some f_below := by rfl
def wordsL : List D := [(.str "scan"), (.str "one"), (.str "cross"), (.str "join"), (.str "match"), (.str "outer"), (.str "keep"), (.str "pick"), (.str "distinct"), (.str "group"), (.str "all"), (.str "except"), (.str "intersect")]
theorem is_plan_run (n : Nat) (h : Hb) (x : D) (ds : List D) (b : Bool) (hb : inD h x (.kt wordsL) = some b) : (FN (n + 1)).run Str.empty "is_plan" [.tup (x :: ds)] h = some (.ok (.bl b) h) := by
  rw [run_of k_is_plan]
  have ev : evE (FN n) (.andv (.cmp .Gt (.blt .len (.cons (.var 0) .nil)) (.int 0)) (.cmp .In (.idx (.var 0) (.int 0)) (.gtup "WORDS" wordsL))) [some (.tup (x :: ds))] h = some (.ok (.bl b) h) := by
    have g0 : getVar [some (D.tup (x :: ds))] 0 = some (.tup (x :: ds)) := rfl
    have e1 : evE (FN n) (.cmp .Gt (.blt .len (.cons (.var 0) .nil)) (.int 0)) [some (.tup (x :: ds))] h = some (.ok (.bl true) h) := by
      rw [qE_cmp, qE_blt, qL_cons, qE_var, g0]
      simp only [bnd_ok, qL_nil, bltD, nvRes, qE_int, cmpD]
      rw [decide_eq_true (by simp only [List.length_cons]; omega)]
    rw [qE_andv, e1, bnd_ok]
    show evE _ _ _ _ = _
    rw [qE_cmp, ev_idx (e := x) g0 (by simp [idxD, ix_0]), bnd_ok, qE_gtup, bnd_ok]
    simp only [cmpD, hb]
  rw [run_ret (d := f_is_plan) rfl (ret_ev ev)]
  exact congrArg some (gc_same _ _)
/-- how a part of a plan is looked at -/
def Part (h : Hb) (P : D → Bool) (d : D) : Prop := (∃ x xs, d = .tup (x :: xs) ∧ inD h x (.kt wordsL) = some (P d)) ∨ (d = .non ∧ P d = false) ∨ ((∃ s, d = .str s) ∧ P d = false)
theorem below_run (n : Nat) (h : Hb) (x : D) (ds : List D) (P : D → Bool) (hs : slcD h (.tup (x :: ds)) (some 1) none = some (.v (.tup ds))) (hl : ds.length ≤ sizeLine) (hp : ∀ d ∈ ds, Part h P d) (nr : noRef.noRefs (ds.filter P) = true) :
    (FN (n + 2)).run Str.empty "below" [.tup (x :: ds)] h = some (.ok (.ref h.length) (h ++ [.lst (ds.filter P)])) := by
  rw [run_of k_below]
  have g0 : getVar [some (D.tup (x :: ds)), none] 0 = some (.tup (x :: ds)) := rfl
  have it : evI (FN (n + 1)) (.val (.slc (.var 0) (.some (.int 1)) .none)) [some (.tup (x :: ds)), none] h = some (.ok (.tup ds) h) := by
    rw [qI_val, qE_slc, qE_var, g0]
    simp only [bnd_ok, qO_some, qE_int, qO_none, hs, nvRes]
  have key := comp_all (J := .tup ds) (g := .nm 1) (c := evT (FN (n + 1)) (.and (.ex (.isin (.var 1) [.tuple] true)) (.ex (.call "is_plan" (.cons (.var 1) .nil))))) (e := evE (FN (n + 1)) (.var 1)) (ρ := Ev.wipe [some (.tup (x :: ds)), none] (Tg.nm 1).slots) (h := h) (ds := ds) (p := P) (f := id)
    (fun i => rfl) rfl (fun d hd => ⟨[some (.tup (x :: ds)), some d], rfl, ?_, fun _ => rfl⟩) [] (by have := List.length_filter_le P ds; simp; omega)
  · have ev : evE (FN (n + 1)) (.comp true (.nm 1) (.val (.slc (.var 0) (.some (.int 1)) .none)) (.and (.ex (.isin (.var 1) [.tuple] true)) (.ex (.call "is_plan" (.cons (.var 1) .nil)))) (.var 1)) [some (.tup (x :: ds)), none] h = some (.ok (.ref h.length) (h ++ [.lst (ds.filter P)])) := by
      rw [qE_comp, it, bnd_ok, key]
      simp [okX, bnd_ok, Ev.newList]
    rw [run_ret (d := f_below) rfl (ret_ev ev)]
    exact congrArg some (gc_list h [.lst (ds.filter P)] 0 _ rfl nr)
  · have g1 : getVar [some (D.tup (x :: ds)), some d] 1 = some d := rfl
    rw [qT_and, qT_ex, qE_isin, qE_var, g1]
    rcases hp d hd with ⟨y, ys, rfl, e⟩ | ⟨rfl, e⟩ | ⟨⟨s, rfl⟩, e⟩
    · simp only [bnd_ok, isAny, tyOf, Option.map, List.any, kitD, Bool.or_false, tru]
      rw [qT_ex, qE_call, qL_cons, qE_var, g1]
      simp only [bnd_ok, qL_nil]
      rw [is_plan_run n h y ys _ e]
      simp only [bnd_ok, tru]
    · simp only [bnd_ok, isAny, tyOf, Option.map, List.any, kitD, Bool.or_false, tru, e]
    · simp only [bnd_ok, isAny, tyOf, Option.map, List.any, kitD, Bool.or_false, tru, e]
end Pl

set_option Elab.async false
set_option linter.all false
set_option maxRecDepth 100000
set_option autoImplicit false
set_option maxHeartbeats 0
/-! Pl9: plain steps: Runner.made. -/
namespace Pl
open PySem Ev PK Qe
theorem k_made : keys.lookup (("Runner" : Str), ("made" : Str)) = some m_Runner_made := by rfl
theorem has_joined : pg.hasM "Runner" "joined" = true := by decide +kernel
theorem has_made : pg.hasM "Runner" "made" = true := by decide +kernel
theorem has_rows : pg.hasM "Runner" "rows" = true := by decide +kernel
theorem evL1 {F : Fn} {ρ : En} {h : Hb} {a : Ex} {d : D} (ea : evE F a ρ h = some (.ok d h)) : evL F (.cons a .nil) ρ h = some (.ok [d] h) := by
  rw [qL_cons, ea, bnd_ok, qL_nil]; rfl
theorem evL3 {F : Fn} {ρ : En} {h : Hb} {a b c : Ex} {d e f : D} (ea : evE F a ρ h = some (.ok d h)) (eb : evE F b ρ h = some (.ok e h)) (ec : evE F c ρ h = some (.ok f h)) : evL F (.cons a (.cons b (.cons c .nil))) ρ h = some (.ok [d, e, f] h) := by
  rw [qL_cons, ea, bnd_ok, qL_cons, eb, bnd_ok, evL1 ec]; rfl
theorem ev_var {F : Fn} {ρ : En} {h : Hb} {x : Nat} {d : D} (hx : getVar ρ x = some d) : evE F (.var x) ρ h = some (.ok d h) := by rw [qE_var, hx]
/-- the plan is joined from two parts -/
theorem made_joined (n : Nat) (h : Hb) (r m m1 m2 S W : Nat) (w : Str) (rest : List D) (R : RO D) (er : h[r]? = some (rnr S W)) (hm : h[m]? = some (.lst [.ref m1, .ref m2]))
    (n1 : w ≠ "scan") (n2 : w ≠ "one") (n3 : w ≠ "keep") (n4 : w ≠ "pick") (n5 : w ≠ "distinct") (n6 : w ≠ "group")
    (hj : (FN n).run "Runner" "joined" [.ref r, .tup (.str w :: rest), .ref m1, .ref m2] h = R)
    (hR : (∃ xs, R = some (.ok (.ref h.length) (h ++ [.lst xs]))) ∨ R = some (.exc "NoPlan" [] h)) :
    (FN (n + 1)).run "Runner" "made" [.ref r, .tup (.str w :: rest), .ref m] h = R := by
  rw [run_of k_made]
  have ev : evE (FN n) (.meth (.var 0) "joined" (.cons (.var 1) (.cons (.idx (.var 2) (.int 0)) (.cons (.idx (.var 2) (.int 1)) .nil)))) [some (.ref r), some (.tup (.str w :: rest)), some (.ref m), none, none] h = R := by
    rw [ev_meth rfl er (by intro fs e; cases e; rfl) has_joined (evL3 (ev_var rfl) (ev_idx (e := .ref m1) (d := .ref m) rfl (by simp [idxD, hm, ix_0])) (ev_idx (e := .ref m2) (d := .ref m) rfl (by simp [idxD, hm, ix_1])))]
    exact hj
  have s : ∀ {out}, evSs (FN n) pg.above WF (.cons (.ret (.meth (.var 0) "joined" (.cons (.var 1) (.cons (.idx (.var 2) (.int 0)) (.cons (.idx (.var 2) (.int 1)) .nil))))) .nil) [some (.ref r), some (.tup (.str w :: rest)), some (.ref m), none, none] h = out →
      evSs (FN n) pg.above WF m_Runner_made.body (startEn m_Runner_made [.ref r, .tup (.str w :: rest), .ref m]) h = out := fun e =>
    (skip (wordF rfl n1)).trans ((skip (wordF rfl n2)).trans ((skip (wordF rfl n3)).trans ((skip (wordF rfl n4)).trans ((skip (wordF rfl n5)).trans ((skip (wordF rfl n6)).trans e)))))
  rcases hR with ⟨xs, rfl⟩ | rfl
  · rw [run_ret (d := m_Runner_made) rfl (s (ret_ev ev))]
    exact congrArg some (gc_list0 h _)
  · rw [run_exc (d := m_Runner_made) rfl (s (ret_exc ev))]
    exact congrArg some (gc_raise h _)
/-- a comprehension over a list: what holds is kept -/
theorem ev_comp {F : Fn} {ρ : En} {h : Hb} {x : Bool} {g : Nat} {it e : Ex} {c : Tx} {m : Nat} {ds : List D} {P : D → Bool} {f : D → D} (hi : evE F it ρ h = some (.ok (.ref m) h)) (hm : h[m]? = some (.lst ds))
    (hb : ∀ d ∈ ds, evT F c (setVar (Ev.wipe ρ [g]) g d) h = some (.ok (P d) h) ∧ (P d = true → evE F e (setVar (Ev.wipe ρ [g]) g d) h = some (.ok (f d) h))) (hl : (ds.filter P).length ≤ sizeLine) :
    evE F (.comp x (.nm g) (.val it) c e) ρ h = some (.ok (.ref h.length) (h ++ [.lst ((ds.filter P).map f)])) := by
  have it1 : evI F (.val it) ρ h = some (.ok (.lst m) h) := by
    rw [qI_val, hi]; simp [bnd_ok, items, hm]
  rw [qE_comp, it1, bnd_ok]
  have key := comp_all (J := .lst m) (g := .nm g) (c := evT F c) (e := evE F e) (ρ := Ev.wipe ρ (Tg.nm g).slots) (h := h) (ds := ds) (p := P) (f := f) (at_lst hm) (size_lst hm) (fun d hd => ⟨_, rfl, (hb d hd).1, (hb d hd).2⟩) [] (by simpa using hl)
  rw [key]
  cases x <;> rfl
theorem made_keep (n : Nat) (h : Hb) (r m m1 S W : Nat) (c : D) (rest : List D) (rows : List D) (P : D → Bool) (er : h[r]? = some (rnr S W)) (hm : h[m]? = some (.lst [.ref m1])) (h1 : h[m1]? = some (.lst rows))
    (hc : ∀ d ∈ rows, (FN n).run "Runner" "holds" [.ref r, c, d] h = some (.ok (.bl (P d)) h)) (hl : rows.length ≤ sizeLine) :
    (FN (n + 1)).run "Runner" "made" [.ref r, .tup (.str "keep" :: c :: rest), .ref m] h = some (.ok (.ref h.length) (h ++ [.lst (rows.filter P)])) := by
  rw [run_of k_made]
  have ev := ev_comp (F := FN n) (ρ := [some (.ref r), some (.tup (.str "keep" :: c :: rest)), some (.ref m), none, none]) (h := h) (x := true) (g := 3) (it := .idx (.var 2) (.int 0)) (e := .var 3) (c := .ex (.meth (.var 0) "holds" (.cons (.idx (.var 1) (.int 1)) (.cons (.var 3) .nil)))) (m := m1) (ds := rows) (P := P) (f := id)
    (ev_idx (e := .ref m1) (d := .ref m) rfl (by simp [idxD, hm, ix_0])) h1 (fun d hd => ⟨by
      rw [qT_ex, ev_meth (r := r) rfl er (by intro fs e; cases e; rfl) has_holds (evL2 (ev_idx (e := c) (d := .tup (.str "keep" :: c :: rest)) rfl (by simp [idxD, ix_1])) (ev_var (d := d) rfl)), hc d hd, bnd_ok]; rfl, fun _ => ev_var rfl⟩) (Nat.le_trans (List.length_filter_le P rows) hl)
  have e3 : evSs (FN n) pg.above WF m_Runner_made.body (startEn m_Runner_made [.ref r, .tup (.str "keep" :: c :: rest), .ref m]) h = _ :=
    (skip (wordF rfl (by decide))).trans ((skip (wordF rfl (by decide))).trans (hit (wordT rfl) (ret_ev ev)))
  rw [run_ret (d := m_Runner_made) rfl e3, List.map_id]
  exact congrArg some (gc_list0 h _)
end Pl

set_option Elab.async false
set_option linter.all false
set_option maxRecDepth 100000
set_option autoImplicit false
set_option maxHeartbeats 0
/-! Pl10: plain steps: Runner.made of a scan; Runner.rows. -/
namespace Pl
open PySem Ev PK Qe
theorem k_rows : keys.lookup (("Runner" : Str), ("rows" : Str)) = some m_Runner_rows := by rfl
theorem made_scan (n : Nat) (h : Hb) (r m S W s l : Nat) (nm : Str) (rest : List D) (kvs : List (L2.Key × D)) (cl : Str) (fs : List (Str × D)) (rows : List D) (er : h[r]? = some (rnr S W)) (hS : h[S]? = some (.dk kvs)) (hk : getK kvs (Sum.inr nm) = some (.ref s)) (hs : h[s]? = some (.ins cl fs)) (hf : fs.lookup ("rows" : Str) = some (D.ref l)) (hl : h[l]? = some (.lst rows)) :
    (FN (n + 1)).run "Runner" "made" [.ref r, .tup (.str "scan" :: .str nm :: rest), .ref m] h = some (.ok (.ref h.length) (h ++ [.lst rows])) := by
  rw [run_of k_made]
  have g0 : getVar [some (.ref r), some (.tup (.str "scan" :: .str nm :: rest)), some (.ref m), none, none] 0 = some (.ref r) := rfl
  have ev : evE (FN n) (.blt .list (.cons (.fld (.idx (.fld (.var 0) "sources") (.idx (.var 1) (.int 1))) "rows") .nil)) [some (.ref r), some (.tup (.str "scan" :: .str nm :: rest)), some (.ref m), none, none] h = some (.ok (.ref h.length) (h ++ [.lst rows])) := by
    have e0 : evE (FN n) (.fld (.var 0) "sources") [some (.ref r), some (.tup (.str "scan" :: .str nm :: rest)), some (.ref m), none, none] h = some (.ok (.ref S) h) := by
      rw [qE_fld, qE_var, g0]; simp only [bnd_ok, er, rnr]; rfl
    have e1 : evE (FN n) (.idx (.fld (.var 0) "sources") (.idx (.var 1) (.int 1))) [some (.ref r), some (.tup (.str "scan" :: .str nm :: rest)), some (.ref m), none, none] h = some (.ok (.ref s) h) := by
      rw [qE_idx, e0, bnd_ok, ev_idx (e := .str nm) (d := .tup (.str "scan" :: .str nm :: rest)) rfl (by simp [idxD, ix_1]), bnd_ok]
      simp only [idxD, hS, hk]
    have e2 : evE (FN n) (.fld (.idx (.fld (.var 0) "sources") (.idx (.var 1) (.int 1))) "rows") [some (.ref r), some (.tup (.str "scan" :: .str nm :: rest)), some (.ref m), none, none] h = some (.ok (.ref l) h) := by
      rw [qE_fld, e1]; simp only [bnd_ok, hs, hf]
    rw [qE_blt, evL1 e2]
    simp only [bnd_ok, bltD, items, hl, Option.map, nvRes]
  have e3 : evSs (FN n) pg.above WF m_Runner_made.body (startEn m_Runner_made [.ref r, .tup (.str "scan" :: .str nm :: rest), .ref m]) h = _ := hit (wordT rfl) (ret_ev ev)
  rw [run_ret (d := m_Runner_made) rfl e3]
  exact congrArg some (gc_list0 h _)
/-- what made gives is looked at for its size -/
theorem rows_of {n : Nat} {h h1 : Hb} {r m S W : Nat} {plan : D} {rows : List D} {g : Hb} (er : h[r]? = some (rnr S W)) (er1 : (h ++ g)[r]? = some (rnr S W))
    (ep : evE (FN n) (.comp true (.nm 3) (.val (.call "below" (.cons (.var 1) .nil))) .yes (.meth (.var 0) "rows" (.cons (.var 3) .nil))) [some (.ref r), some plan, none, none] h = some (.ok (.ref m) (h ++ g)))
    (em : (FN n).run "Runner" "made" [.ref r, plan, .ref m] (h ++ g) = some (.ok (.ref (h ++ g).length) ((h ++ g) ++ [.lst rows]))) (nr : noRef.noRefs rows = true) :
    (FN (n + 1)).run "Runner" "rows" [.ref r, plan] h = if 2000 < rows.length then some (.exc "NoPlan" [] h) else some (.ok (.ref h.length) (h ++ [.lst rows])) := by
  rw [run_of k_rows]
  have hm' : (fnN pg WF n).has "Runner" "made" = true := by cases n <;> exact has_made
  have e1 : evE (FN n) (.meth (.var 0) "made" (.cons (.var 1) (.cons (.comp true (.nm 3) (.val (.call "below" (.cons (.var 1) .nil))) .yes (.meth (.var 0) "rows" (.cons (.var 3) .nil))) .nil))) [some (.ref r), some plan, none, none] h = some (.ok (.ref (h ++ g).length) ((h ++ g) ++ [.lst rows])) := by
    rw [qE_meth, ev_var (d := .ref r) rfl]
    simp only [noX, bnd_ok, er, rnr]
    rw [if_pos ⟨rfl, hm'⟩, qL_cons, ev_var (d := plan) rfl, bnd_ok, qL_cons, ep]
    simp only [bnd_ok, qL_nil]
    exact em
  have e2 : evS (FN n) pg.above WF (.asg (.tg (.nm 2)) (.meth (.var 0) "made" (.cons (.var 1) (.cons (.comp true (.nm 3) (.val (.call "below" (.cons (.var 1) .nil))) .yes (.meth (.var 0) "rows" (.cons (.var 3) .nil))) .nil)))) [some (.ref r), some plan, none, none] h = some (.nx [some (.ref r), some plan, some (.ref (h ++ g).length), none] ((h ++ g) ++ [.lst rows])) := by
    rw [qS_asg_tg, e1]; rfl
  have hn : ((h ++ g) ++ [Ob.lst rows])[(h ++ g).length]? = some (.lst rows) := by simp
  have e4 : evT (FN n) (.cmp .Gt (.blt .len (.cons (.var 2) .nil)) (.gint "MOST_ROWS" 2000)) [some (.ref r), some plan, some (.ref (h ++ g).length), none] ((h ++ g) ++ [.lst rows]) = some (.ok (decide ((2000 : Int) < (rows.length : Int))) ((h ++ g) ++ [.lst rows])) := by
    rw [qT_cmp, len_lst rfl hn, bnd_ok, qE_gint, bnd_ok]
    simp only [cmpD]
  by_cases big : 2000 < rows.length
  · rw [if_pos big]
    rw [decide_eq_true (by omega)] at e4
    have e3 : evSs (FN n) pg.above WF m_Runner_rows.body (startEn m_Runner_rows [.ref r, plan]) h = _ := (ss_nx e2).trans (ss_exc ((ifs_t e4).trans (ss_exc qS_raise)))
    rw [run_exc (d := m_Runner_rows) rfl e3]
    rw [List.append_assoc]
    exact congrArg some (gcX_ext h _ _)
  · rw [if_neg big]
    rw [decide_eq_false (by omega)] at e4
    have e3 : evSs (FN n) pg.above WF m_Runner_rows.body (startEn m_Runner_rows [.ref r, plan]) h = _ := (ss_nx e2).trans ((skip e4).trans (ret_ev (ev_var rfl)))
    rw [run_ret (d := m_Runner_rows) rfl e3]
    rw [List.append_assoc, List.length_append]
    exact congrArg some (gc_list h _ g.length rows (by simp) nr)
end Pl

set_option Elab.async false
set_option linter.all false
set_option maxRecDepth 100000
set_option autoImplicit false
set_option maxHeartbeats 0
/-! Pl11: plain steps: the rows of the parts of a plan. -/
namespace Pl
open PySem Ev PK Qe
theorem loop_end {J : It} {g : Tg} {c : En → Hb → RO Bool} {e : En → Hb → RO D} {ρ : En} {k i : Nat} {acc : List D} {h : Hb} (ha : J.at h i = some none) : compLoop J g c e ρ (k + 1) i acc h = some (.ok acc h) := by
  simp only [compLoop, ha]
theorem loop_one {J : It} {g : Tg} {c : En → Hb → RO Bool} {e : En → Hb → RO D} {ρ ρ' : En} {k i : Nat} {acc : List D} {h h1 : Hb} {d x : D} (ha : J.at h i = some (some d)) (hb : bindTg ρ g d = some ρ') (hc : c ρ' h = some (.ok true h)) (he : e ρ' h = some (.ok x h1)) (hl : acc.length < sizeLine) :
    compLoop J g c e ρ (k + 1) i acc h = compLoop J g c e ρ k (i + 1) (acc ++ [x]) h1 := by
  simp only [compLoop, ha, hb, hc, bnd_ok, he, if_pos hl]
theorem loop_exc {J : It} {g : Tg} {c : En → Hb → RO Bool} {e : En → Hb → RO D} {ρ ρ' : En} {k i : Nat} {acc : List D} {h h1 : Hb} {d : D} {n : Str} {fs} (ha : J.at h i = some (some d)) (hb : bindTg ρ g d = some ρ') (hc : c ρ' h = some (.ok true h)) (he : e ρ' h = some (.exc n fs h1)) :
    compLoop J g c e ρ (k + 1) i acc h = some (.exc n fs h1) := by
  simp only [compLoop, ha, hb, hc, bnd_ok, he, bnd_exc]
/-- the comprehension of Runner.rows -/
abbrev partsE : Ex := .comp true (.nm 3) (.val (.call "below" (.cons (.var 1) .nil))) .yes (.meth (.var 0) "rows" (.cons (.var 3) .nil))
theorem parts_start {n : Nat} {h : Hb} {r : Nat} {plan : D} {ps : List D} {R : RO (List D)} (hb : (FN n).run Str.empty "below" [plan] h = some (.ok (.ref h.length) (h ++ [.lst ps])))
    (hR : compLoop (.lst h.length) (.nm 3) (evT (FN n) .yes) (evE (FN n) (.meth (.var 0) "rows" (.cons (.var 3) .nil))) [some (.ref r), some plan, none, none] (ps.length + 1) 0 [] (h ++ [.lst ps]) = R) :
    evE (FN n) partsE [some (.ref r), some plan, none, none] h = bnd R fun ds h2 => Ev.newList ds h2 := by
  have it : evI (FN n) (.val (.call "below" (.cons (.var 1) .nil))) [some (.ref r), some plan, none, none] h = some (.ok (.lst h.length) (h ++ [.lst ps])) := by
    rw [qI_val, qE_call, evL1 (ev_var (d := plan) rfl), bnd_ok, hb]
    simp [bnd_ok, items]
  have hz : It.size (h ++ [.lst ps]) (.lst h.length) = ps.length := by simp [It.size, items]
  rw [qE_comp, it, bnd_ok]
  simp only [okX, hz]
  exact congrArg (fun z => bnd z fun ds h2 => Ev.newList ds h2) hR
theorem ev_rows {n : Nat} {h : Hb} {r S W : Nat} {p plan : D} {R : RO D} (er : h[r]? = some (rnr S W)) (hp : (FN n).run "Runner" "rows" [.ref r, p] h = R) : evE (FN n) (.meth (.var 0) "rows" (.cons (.var 3) .nil)) [some (.ref r), some plan, none, some p] h = R := by
  rw [ev_meth (r := r) rfl er (by intro fs e; cases e; rfl) has_rows (evL1 (ev_var (d := p) rfl)), hp]
theorem parts0 {n : Nat} {h : Hb} {r : Nat} {plan : D} (hb : (FN n).run Str.empty "below" [plan] h = some (.ok (.ref h.length) (h ++ [.lst []]))) :
    evE (FN n) partsE [some (.ref r), some plan, none, none] h = some (.ok (.ref (h.length + 1)) (h ++ [.lst [], .lst []])) := by
  rw [parts_start hb (loop_end (by rw [at_lst (by rw [at_new0]; rfl)]; rfl)), bnd_ok]
  simp [Ev.newList]
theorem parts1 {n : Nat} {h : Hb} {r S W : Nat} {plan p : D} {A : List D} (er : h[r]? = some (rnr S W)) (hb : (FN n).run Str.empty "below" [plan] h = some (.ok (.ref h.length) (h ++ [.lst [p]])))
    (hp : (FN n).run "Runner" "rows" [.ref r, p] (h ++ [.lst [p]]) = some (.ok (.ref (h ++ [Ob.lst [p]]).length) ((h ++ [.lst [p]]) ++ [.lst A]))) :
    evE (FN n) partsE [some (.ref r), some plan, none, none] h = some (.ok (.ref (h.length + 2)) (h ++ [.lst [p], .lst A, .lst [.ref (h.length + 1)]])) := by
  rw [parts_start hb ((loop_one (d := p) (by rw [at_lst (by rw [at_new0]; rfl)]; rfl) rfl qT_yes (ev_rows (at_old er) hp) (by rw [sizeLine_eq']; simp)).trans
    (loop_end (by rw [List.append_assoc, at_lst (by rw [at_new0]; rfl)]; rfl))), bnd_ok]
  simp [Ev.newList]
theorem parts1x {n : Nat} {h : Hb} {r S W : Nat} {plan p : D} (er : h[r]? = some (rnr S W)) (hb : (FN n).run Str.empty "below" [plan] h = some (.ok (.ref h.length) (h ++ [.lst [p]])))
    (hp : (FN n).run "Runner" "rows" [.ref r, p] (h ++ [.lst [p]]) = some (.exc "NoPlan" [] (h ++ [.lst [p]]))) :
    evE (FN n) partsE [some (.ref r), some plan, none, none] h = some (.exc "NoPlan" [] (h ++ [.lst [p]])) := by
  rw [parts_start hb (loop_exc (d := p) (by rw [at_lst (by rw [at_new0]; rfl)]; rfl) rfl qT_yes (ev_rows (at_old er) hp)), bnd_exc]
theorem parts2 {n : Nat} {h : Hb} {r S W : Nat} {plan p q : D} {A B : List D} (er : h[r]? = some (rnr S W)) (hb : (FN n).run Str.empty "below" [plan] h = some (.ok (.ref h.length) (h ++ [.lst [p, q]])))
    (hp : (FN n).run "Runner" "rows" [.ref r, p] (h ++ [.lst [p, q]]) = some (.ok (.ref (h ++ [Ob.lst [p, q]]).length) ((h ++ [.lst [p, q]]) ++ [.lst A])))
    (hq : (FN n).run "Runner" "rows" [.ref r, q] ((h ++ [.lst [p, q]]) ++ [.lst A]) = some (.ok (.ref ((h ++ [Ob.lst [p, q]]) ++ [Ob.lst A]).length) (((h ++ [.lst [p, q]]) ++ [.lst A]) ++ [.lst B]))) :
    evE (FN n) partsE [some (.ref r), some plan, none, none] h = some (.ok (.ref (h.length + 3)) (h ++ [.lst [p, q], .lst A, .lst B, .lst [.ref (h.length + 1), .ref (h.length + 2)]])) := by
  rw [parts_start hb ((loop_one (d := p) (by rw [at_lst (by rw [at_new0]; rfl)]; rfl) rfl qT_yes (ev_rows (at_old er) hp) (by rw [sizeLine_eq']; simp)).trans
    ((loop_one (d := q) (by rw [List.append_assoc, at_lst (by rw [at_new0]; rfl)]; rfl) rfl qT_yes (ev_rows (at_old (at_old er)) hq) (by rw [sizeLine_eq']; simp)).trans
    (loop_end (by rw [List.append_assoc, List.append_assoc, at_lst (by rw [at_new0]; rfl)]; rfl)))), bnd_ok]
  simp [Ev.newList]
end Pl

set_option Elab.async false
set_option linter.all false
set_option maxRecDepth 100000
set_option autoImplicit false
set_option maxHeartbeats 0
/-! Pl12: what a plan comes to: rows, or the exception. -/
namespace Pl
open PySem Ev PK Qe
/-- rows within the bound -/
def lim (rows : List D) : Option (List D) := if 2000 < rows.length then none else some rows
def res (h : Hb) : Option (List D) → RO D
  | some A => some (.ok (.ref h.length) (h ++ [.lst A]))
  | none => some (.exc "NoPlan" [] h)
def Out (Inv : Hb → Prop) (r k : Nat) (p : D) (o : Option (List D)) : Prop := ∀ n h, Inv h → (FN (n + k)).run "Runner" "rows" [.ref r, p] h = res h o
structure Wd (Inv : Hb → Prop) (r S W : Nat) : Prop where
  app : ∀ h g, Inv h → Inv (h ++ g)
  run : ∀ h, Inv h → h[r]? = some (rnr S W)
def Below (k : Nat) (plan : D) (ps : List D) : Prop := ∀ n (h : Hb), (FN (n + k)).run Str.empty "below" [plan] h = some (.ok (.ref h.length) (h ++ [.lst ps]))
theorem Out.up {Inv : Hb → Prop} {r k p o} (a : Out Inv r k p o) (j : Nat) : Out Inv r (k + j) p o := fun n h i => by
  have := a (n + j) h i
  rwa [show n + j + k = n + (k + j) by omega] at this
theorem Below.up {k plan ps} (a : Below k plan ps) (j : Nat) : Below (k + j) plan ps := fun n h => by
  have := a (n + j) h
  rwa [show n + j + k = n + (k + j) by omega] at this
theorem lim_res (h : Hb) (rows : List D) : res h (lim rows) = if 2000 < rows.length then some (.exc "NoPlan" [] h) else some (.ok (.ref h.length) (h ++ [.lst rows])) := by
  unfold lim
  by_cases b : 2000 < rows.length
  · rw [if_pos b, if_pos b]; rfl
  · rw [if_neg b, if_neg b]; rfl
theorem out0 {Inv : Hb → Prop} {r S W k : Nat} {plan : D} {rows : List D} (w : Wd Inv r S W) (hb : Below k plan []) (nr : noRef.noRefs rows = true)
    (em : ∀ n h m, Inv h → h[m]? = some (.lst []) → (FN (n + k)).run "Runner" "made" [.ref r, plan, .ref m] h = some (.ok (.ref h.length) (h ++ [.lst rows]))) : Out Inv r (k + 1) plan (lim rows) := fun n h i => by
  rw [lim_res]
  exact rows_of (h1 := h) (w.run h i) (w.run _ (w.app h _ i)) (parts0 (hb n h)) (em n _ _ (w.app h _ i) (by rw [at_new]; rfl)) nr
theorem out1 {Inv : Hb → Prop} {r S W k : Nat} {plan p : D} {A rows : List D} (w : Wd Inv r S W) (hb : Below k plan [p]) (hp : Out Inv r k p (some A)) (nr : noRef.noRefs rows = true)
    (em : ∀ n h m m1, Inv h → h[m]? = some (.lst [.ref m1]) → h[m1]? = some (.lst A) → (FN (n + k)).run "Runner" "made" [.ref r, plan, .ref m] h = some (.ok (.ref h.length) (h ++ [.lst rows]))) : Out Inv r (k + 1) plan (lim rows) := fun n h i => by
  rw [lim_res]
  exact rows_of (h1 := h) (w.run h i) (w.run _ (w.app h _ i)) (parts1 (w.run h i) (hb n h) (hp n _ (w.app h _ i))) (em n _ _ (h.length + 1) (w.app h _ i) (by rw [at_new]; rfl) (by rw [at_new]; rfl)) nr
theorem out2 {Inv : Hb → Prop} {r S W k : Nat} {plan p q : D} {A B rows : List D} (w : Wd Inv r S W) (hb : Below k plan [p, q]) (hp : Out Inv r k p (some A)) (hq : Out Inv r k q (some B)) (nr : noRef.noRefs rows = true)
    (em : ∀ n h m m1 m2, Inv h → h[m]? = some (.lst [.ref m1, .ref m2]) → h[m1]? = some (.lst A) → h[m2]? = some (.lst B) → (FN (n + k)).run "Runner" "made" [.ref r, plan, .ref m] h = some (.ok (.ref h.length) (h ++ [.lst rows]))) : Out Inv r (k + 1) plan (lim rows) := fun n h i => by
  rw [lim_res]
  exact rows_of (h1 := h) (w.run h i) (w.run _ (w.app h _ i)) (parts2 (w.run h i) (hb n h) (hp n _ (w.app h _ i)) (hq n _ (w.app _ _ (w.app h _ i)))) (em n _ _ (h.length + 1) (h.length + 2) (w.app h _ i) (by rw [at_new]; rfl) (by rw [at_new]; rfl) (by rw [at_new]; rfl)) nr
/-- the exception on the way: out of the parts, or out of made -/
theorem rows_x {n : Nat} {h : Hb} {r : Nat} {plan : D} {g : Hb} (e1 : evE (FN n) (.meth (.var 0) "made" (.cons (.var 1) (.cons partsE .nil))) [some (.ref r), some plan, none, none] h = some (.exc "NoPlan" [] (h ++ g))) :
    (FN (n + 1)).run "Runner" "rows" [.ref r, plan] h = some (.exc "NoPlan" [] h) := by
  rw [run_of k_rows]
  have e2 : evS (FN n) pg.above WF (.asg (.tg (.nm 2)) (.meth (.var 0) "made" (.cons (.var 1) (.cons partsE .nil)))) [some (.ref r), some plan, none, none] h = some (.exc "NoPlan" [] [some (.ref r), some plan, none, none] (h ++ g)) := by
    rw [qS_asg_tg, e1]; rfl
  have e3 : evSs (FN n) pg.above WF m_Runner_rows.body (startEn m_Runner_rows [.ref r, plan]) h = _ := ss_exc e2
  rw [run_exc (d := m_Runner_rows) rfl e3]
  exact congrArg some (gcX_ext h _ _)
theorem out1x {Inv : Hb → Prop} {r S W k : Nat} {plan p : D} (w : Wd Inv r S W) (hb : Below k plan [p]) (hp : Out Inv r k p none) : Out Inv r (k + 1) plan none := fun n h i => by
  have hm' : (fnN pg WF (n + k)).has "Runner" "made" = true := by cases (n + k) <;> exact has_made
  refine rows_x (n := n + k) (g := [.lst [p]]) ?_
  rw [qE_meth, ev_var (d := .ref r) rfl]
  simp only [noX, bnd_ok, w.run h i, rnr]
  rw [if_pos ⟨rfl, hm'⟩, qL_cons, ev_var (d := plan) rfl, bnd_ok, qL_cons, parts1x (w.run h i) (hb n h) (hp n _ (w.app h _ i))]
  simp only [bnd_exc]
theorem out2x {Inv : Hb → Prop} {r S W k : Nat} {plan p q : D} {A B : List D} (w : Wd Inv r S W) (hb : Below k plan [p, q]) (hp : Out Inv r k p (some A)) (hq : Out Inv r k q (some B))
    (em : ∀ n h m m1 m2, Inv h → h[m]? = some (.lst [.ref m1, .ref m2]) → h[m1]? = some (.lst A) → h[m2]? = some (.lst B) → (FN (n + k)).run "Runner" "made" [.ref r, plan, .ref m] h = some (.exc "NoPlan" [] h)) : Out Inv r (k + 1) plan none := fun n h i => by
  have hm' : (fnN pg WF (n + k)).has "Runner" "made" = true := by cases (n + k) <;> exact has_made
  refine rows_x (n := n + k) (g := [.lst [p, q], .lst A, .lst B, .lst [.ref (h.length + 1), .ref (h.length + 2)]]) ?_
  rw [qE_meth, ev_var (d := .ref r) rfl]
  simp only [noX, bnd_ok, w.run h i, rnr]
  rw [if_pos ⟨rfl, hm'⟩, qL_cons, ev_var (d := plan) rfl, bnd_ok, qL_cons, parts2 (w.run h i) (hb n h) (hp n _ (w.app h _ i)) (hq n _ (w.app _ _ (w.app h _ i)))]
  simp only [bnd_ok, qL_nil]
  exact em n _ _ (h.length + 1) (h.length + 2) (w.app h _ i) (by rw [at_new]; rfl) (by rw [at_new]; rfl) (by rw [at_new]; rfl)
end Pl

set_option Elab.async false
set_option linter.all false
set_option maxRecDepth 100000
set_option autoImplicit false
set_option maxHeartbeats 0
/-! Pl13: the parts of the drawn plans. -/
namespace Pl
open PySem Ev PK Qe
def planP : D → Bool
  | .tup (.str w :: _) => wordsL.any fun d => flatEq d (.str w)
  | _ => false
theorem part_word (h : Hb) (w : Str) (xs : List D) : Part h planP (.tup (.str w :: xs)) := .inl ⟨_, _, rfl, by
  simp only [inD, inTup]
  rw [if_pos ⟨rfl, by rfl⟩]
  rfl⟩
theorem part_int (h : Hb) (i : Int) (xs : List D) : Part h planP (.tup (.int i :: xs)) := .inl ⟨_, _, rfl, by
  simp only [inD, inTup]
  rw [if_pos ⟨rfl, by rfl⟩]
  simp [wordsL, flatEq, planP]⟩
theorem part_non (h : Hb) : Part h planP .non := .inr (.inl ⟨rfl, rfl⟩)
theorem part_str (h : Hb) (s : Str) : Part h planP (.str s) := .inr (.inr ⟨⟨s, rfl⟩, rfl⟩)
theorem below_of (x : D) (ds ps : List D) (hs : ∀ h, slcD h (.tup (x :: ds)) (some 1) none = some (.v (.tup ds))) (hl : ds.length ≤ 16) (hp : ∀ (h : Hb), ∀ d ∈ ds, Part h planP d) (e : ds.filter planP = ps) (nr : noRef.noRefs ps = true) : Below 2 (.tup (x :: ds)) ps := fun n h => by
  subst e
  exact below_run n h x ds planP (hs h) (by rw [sizeLine_eq']; omega) (hp h) nr
def scanA : D := .tup [.str "scan", .str "s0_a"]
def scanB : D := .tup [.str "scan", .str "s0_b"]
theorem below_scanA : Below 2 scanA [] := below_of _ _ _ (fun h => by rfl) (by decide) (fun h d hd => by simp at hd; subst hd; exact part_str h _) rfl rfl
theorem below_scanB : Below 2 scanB [] := below_of _ _ _ (fun h => by rfl) (by decide) (fun h d hd => by simp at hd; subst hd; exact part_str h _) rfl rfl
theorem below_cross : Below 2 (.tup [.str "cross", scanA, scanB]) [scanA, scanB] := below_of _ _ _ (fun h => by rfl) (by decide) (fun h d hd => by
  simp at hd; rcases hd with rfl | rfl
  · exact part_word h _ _
  · exact part_word h _ _) rfl rfl
end Pl

set_option Elab.async false
set_option linter.all false
set_option maxRecDepth 100000
set_option autoImplicit false
set_option maxHeartbeats 0
/-! Pl14: parts that are no plans. -/
namespace Pl
open PySem Ev PK Qe
def wordsP : List PyData := [(.str "scan"), (.str "one"), (.str "cross"), (.str "join"), (.str "match"), (.str "outer"), (.str "keep"), (.str "pick"), (.str "distinct"), (.str "group"), (.str "all"), (.str "except"), (.str "intersect")]
theorem words_py (h : Hb) : toPy 60 h (.kt wordsL) = some (.tuple wordsP) := by rfl
theorem words_shaped : SeqAt.shaped (.tuple wordsP) = true := by decide +kernel
theorem in_words (h : Hb) (ds : List D) (a : PyData) (ha : toPy 60 h (.tup ds) = some a) (hs : SeqAt.shaped a = true) : inD h (.tup ds) (.kt wordsL) = some (wordsP.any fun b => PyData.eqv b a) := by
  simp only [inD, inTup]
  rw [if_neg (by simp [flat]), ha, words_py]
  simp only [hs, words_shaped, and_self, if_true]
theorem part_col (h : Hb) (xs : List D) : Part h planP (.tup (.tup [.str "column", .non, .str "1"] :: xs)) := .inl ⟨_, _, rfl, by
  rw [in_words h _ (.tuple [.str "column", .none, .str "1"]) rfl (by decide +kernel)]
  exact congrArg some (Eq.trans (b := false) (by decide +kernel) rfl)⟩
theorem part_pair (h : Hb) (xs : List D) : Part h planP (.tup (.tup [.int 1, .int 3] :: xs)) := .inl ⟨_, _, rfl, by
  rw [in_words h _ (.tuple [.int 1, .int 3]) rfl (by decide +kernel)]
  exact congrArg some (Eq.trans (b := false) (by decide +kernel) rfl)⟩
end Pl

set_option Elab.async false
set_option linter.all false
set_option maxRecDepth 100000
set_option autoImplicit false
set_option maxHeartbeats 0
/-! Pl15: what the drawn plans come to: scans, cross, join, match, all. -/
namespace Pl
open PySem Ev PK Qe
/-- two sources, their dict, the runner -/
structure Here (r S W s1 s2 l1 l2 : Nat) (f1 f2 : List (Str × D)) (A B : List D) (h : Hb) : Prop where
  run : h[r]? = some (rnr S W)
  dict : h[S]? = some (.dk [(Sum.inr ("s0_a" : Str), .ref s1), (Sum.inr ("s0_b" : Str), .ref s2)])
  one : h[s1]? = some (.ins "Source" f1)
  two : h[s2]? = some (.ins "Source" f2)
  rows1 : f1.lookup ("rows" : Str) = some (D.ref l1)
  rows2 : f2.lookup ("rows" : Str) = some (D.ref l2)
  list1 : h[l1]? = some (.lst A)
  list2 : h[l2]? = some (.lst B)
variable {r S W s1 s2 l1 l2 : Nat} {f1 f2 : List (Str × D)} {A B : List D}
theorem here_wd : Wd (Here r S W s1 s2 l1 l2 f1 f2 A B) r S W := ⟨fun h g i => ⟨at_old i.run, at_old i.dict, at_old i.one, at_old i.two, i.rows1, i.rows2, at_old i.list1, at_old i.list2⟩, fun h i => i.run⟩
theorem out_scanA (nr : noRef.noRefs A = true) : Out (Here r S W s1 s2 l1 l2 f1 f2 A B) r 3 scanA (lim A) :=
  out0 here_wd below_scanA nr (fun n h m i _ => made_scan (n + 1) h r m S W s1 l1 _ [] _ _ _ _ i.run i.dict (by rfl) i.one i.rows1 i.list1)
theorem out_scanB (nr : noRef.noRefs B = true) : Out (Here r S W s1 s2 l1 l2 f1 f2 A B) r 3 scanB (lim B) :=
  out0 here_wd below_scanB nr (fun n h m i _ => made_scan (n + 1) h r m S W s2 l2 _ [] _ _ _ _ i.run i.dict (by rfl) i.two i.rows2 i.list2)
theorem lim_ok {rows : List D} (h : rows.length ≤ 2000) : lim rows = some rows := by unfold lim; rw [if_neg (by omega)]
theorem lim_no {rows : List D} (h : 2000 < rows.length) : lim rows = none := by unfold lim; rw [if_pos h]
end Pl

set_option Elab.async false
set_option linter.all false
set_option maxRecDepth 100000
set_option autoImplicit false
set_option maxHeartbeats 0
/-! Pl16: what the drawn plans come to: cross. -/
namespace Pl
open PySem Ev PK Qe
theorem noRefs_of {ds : List D} (h : ∀ d ∈ ds, noRef d = true) : noRef.noRefs ds = true := by
  induction ds with
  | nil => rfl
  | cons d ds ih => simp only [noRef.noRefs, h d (by simp), ih fun e he => h e (by simp [he]), Bool.and_self]
theorem Row2.noRef {d : D} (r : Row2 d) : Ev.noRef d = true := by obtain ⟨s, i, rfl⟩ := r; rfl
theorem rows2_noRefs {ds : List D} (h : ∀ d ∈ ds, Row2 d) : noRef.noRefs ds = true := noRefs_of fun d hd => (h d hd).noRef
theorem pairs_noRefs {as bs : List D} {P : D → D → Bool} (ra : ∀ d ∈ as, Row2 d) (rb : ∀ d ∈ bs, Row2 d) : noRef.noRefs (pairsP as bs P) = true := noRefs_of fun d hd => by
  simp only [pairsP, List.mem_flatMap, List.mem_map, List.mem_filter] at hd
  obtain ⟨p, hp, q, ⟨hq, -⟩, rfl⟩ := hd
  obtain ⟨s, i, rfl⟩ := ra p hp
  obtain ⟨t, j, rfl⟩ := rb q hq
  rfl
theorem pairs_all_length (as bs : List D) : (pairsP as bs fun _ _ => true).length = as.length * bs.length := by
  induction as with
  | nil => simp [pairsP]
  | cons a as ih =>
    have : (pairsP (a :: as) bs fun _ _ => true) = (bs.filter fun _ => true).map (addT a) ++ pairsP as bs fun _ _ => true := rfl
    have l : (bs.filter fun _ => true) = bs := List.filter_eq_self.mpr fun _ _ => rfl
    rw [this, l, List.length_append, ih, List.length_map, List.length_cons, Nat.succ_mul, Nat.add_comm]
theorem pairs_le (as bs : List D) (P : D → D → Bool) : (pairsP as bs P).length ≤ as.length * bs.length := by
  induction as with
  | nil => simp [pairsP]
  | cons a as ih =>
    have : (pairsP (a :: as) bs P) = (bs.filter (P a)).map (addT a) ++ pairsP as bs P := rfl
    have l := List.length_filter_le (P a) bs
    rw [this, List.length_append, List.length_map, List.length_cons, Nat.succ_mul]
    omega
variable {r S W s1 s2 l1 l2 : Nat} {f1 f2 : List (Str × D)} {A B : List D}
def crossP : D := .tup [.str "cross", scanA, scanB]
theorem out_cross (ra : ∀ d ∈ A, Row2 d) (rb : ∀ d ∈ B, Row2 d) (la : A.length ≤ 2000) (lb : B.length ≤ 2000) : Out (Here r S W s1 s2 l1 l2 f1 f2 A B) r 4 crossP (lim (pairsP A B fun _ _ => true)) := by
  have oa := out_scanA (r := r) (S := S) (W := W) (s1 := s1) (s2 := s2) (l1 := l1) (l2 := l2) (f1 := f1) (f2 := f2) (A := A) (B := B) (rows2_noRefs ra)
  have ob := out_scanB (r := r) (S := S) (W := W) (s1 := s1) (s2 := s2) (l1 := l1) (l2 := l2) (f1 := f1) (f2 := f2) (A := A) (B := B) (rows2_noRefs rb)
  rw [lim_ok la] at oa
  rw [lim_ok lb] at ob
  by_cases big : 2000 < A.length * B.length
  · rw [lim_no (by rw [pairs_all_length]; exact big)]
    have bi : (2000 : Int) < (A.length : Int) * (B.length : Int) := by exact_mod_cast big
    exact out2x here_wd (below_cross.up 1) oa ob fun n h m m1 m2 i hm h1 h2 => made_joined (n + 2) h r m m1 m2 S W _ _ _ i.run hm (by decide) (by decide) (by decide) (by decide) (by decide) (by decide)
      (joined_crossX (n + 1) h r m1 m2 A B _ _ h1 h2 (small_len la) bi) (.inr rfl)
  · have bi : ¬ (2000 : Int) < (A.length : Int) * (B.length : Int) := by exact_mod_cast big
    exact out2 here_wd (below_cross.up 1) oa ob (pairs_noRefs ra rb) fun n h m m1 m2 i hm h1 h2 => made_joined (n + 2) h r m m1 m2 S W _ _ _ i.run hm (by decide) (by decide) (by decide) (by decide) (by decide) (by decide)
      (joined_crossZ (n + 1) h r m1 m2 A B _ _ h1 h2 (small_len la) bi ra rb (by rw [pairs_all_length, sizeLine_eq']; omega)) (.inl ⟨_, rfl⟩)
end Pl

set_option Elab.async false
set_option linter.all false
set_option maxRecDepth 100000
set_option autoImplicit false
set_option maxHeartbeats 0
/-! Pl17: what the drawn plans come to: join, match, all, keep. -/
namespace Pl
open PySem Ev PK Qe
variable {r S W s1 s2 l1 l2 : Nat} {f1 f2 : List (Str × D)} {A B : List D}
theorem scans (ra : ∀ d ∈ A, Row2 d) (rb : ∀ d ∈ B, Row2 d) (la : A.length ≤ 2000) (lb : B.length ≤ 2000) (j : Nat) : Out (Here r S W s1 s2 l1 l2 f1 f2 A B) r (3 + j) scanA (some A) ∧ Out (Here r S W s1 s2 l1 l2 f1 f2 A B) r (3 + j) scanB (some B) := by
  have oa := out_scanA (r := r) (S := S) (W := W) (s1 := s1) (s2 := s2) (l1 := l1) (l2 := l2) (f1 := f1) (f2 := f2) (A := A) (B := B) (rows2_noRefs ra)
  have ob := out_scanB (r := r) (S := S) (W := W) (s1 := s1) (s2 := s2) (l1 := l1) (l2 := l2) (f1 := f1) (f2 := f2) (A := A) (B := B) (rows2_noRefs rb)
  rw [lim_ok la] at oa
  rw [lim_ok lb] at ob
  exact ⟨oa.up j, ob.up j⟩
def allP : D := .tup [.str "all", scanA, scanB]
theorem below_all : Below 2 allP [scanA, scanB] := below_of _ _ _ (fun h => by rfl) (by decide) (fun h d hd => by
  simp at hd; rcases hd with rfl | rfl
  · exact part_word h _ _
  · exact part_word h _ _) rfl rfl
theorem out_all (ra : ∀ d ∈ A, Row2 d) (rb : ∀ d ∈ B, Row2 d) (la : A.length ≤ 2000) (lb : B.length ≤ 2000) : Out (Here r S W s1 s2 l1 l2 f1 f2 A B) r 4 allP (lim (A ++ B)) :=
  out2 here_wd (below_all.up 1) (scans ra rb la lb 0).1 (scans ra rb la lb 0).2 (rows2_noRefs fun d hd => by rcases List.mem_append.mp hd with m | m; exact ra d m; exact rb d m) fun n h m m1 m2 i hm h1 h2 => made_joined (n + 2) h r m m1 m2 S W _ _ _ i.run hm (by decide) (by decide) (by decide) (by decide) (by decide) (by decide)
    (joined_all (n + 1) h r m1 m2 A B _ h1 h2 (by rw [sizeLine_eq']; omega)) (.inl ⟨_, rfl⟩)
end Pl

set_option Elab.async false
set_option linter.all false
set_option maxRecDepth 100000
set_option autoImplicit false
set_option maxHeartbeats 0
/-! Pl18: what the drawn plans come to: join, match. -/
namespace Pl
open PySem Ev PK Qe
variable {r S W s1 s2 l1 l2 : Nat} {f1 f2 : List (Str × D)} {A B : List D}
theorem pairs_small (P : D → D → Bool) (la : A.length ≤ 2000) (lb : B.length ≤ 2000) : (pairsP A B P).length ≤ sizeLine := by
  have := pairs_le A B P
  have := Nat.mul_le_mul la lb
  rw [sizeLine_eq']; omega
theorem slc_of {h : Hb} {x : D} {ds : List D} (e : cutD (x :: ds) (some 1) none = ds) : slcD h (.tup (x :: ds)) (some 1) none = some (.v (.tup ds)) := by
  simp only [slcD]
  rw [e, if_neg (by intro k; have := congrArg List.length k; simp at this)]
def joinP (c : D) : D := .tup [.str "join", c, scanA, scanB]
theorem below_join (w : Str) (c : D) (hc : ∀ h : Hb, Part h planP c) (pc : planP c = false) : Below 2 (.tup [.str w, c, scanA, scanB]) [scanA, scanB] := below_of _ _ _ (fun h => slc_of (by rfl)) (by simp) (fun h d hd => by
  simp at hd; rcases hd with rfl | rfl | rfl
  · exact hc h
  · exact part_word h _ _
  · exact part_word h _ _) (by simp only [List.filter, pc]; rfl) rfl
theorem out_join (c : D) (P : D → D → Bool) (hc : ∀ h : Hb, Part h planP c) (pc : planP c = false) (ra : ∀ d ∈ A, Row2 d) (rb : ∀ d ∈ B, Row2 d) (la : A.length ≤ 2000) (lb : B.length ≤ 2000)
    (hh : ∀ n h, h[r]? = some (rnr S W) → ∀ p ∈ A, ∀ q ∈ B, (FN (n + 6)).run "Runner" "holds" [.ref r, c, addT p q] h = some (.ok (.bl (P p q)) h)) : Out (Here r S W s1 s2 l1 l2 f1 f2 A B) r 9 (joinP c) (lim (pairsP A B P)) :=
  out2 here_wd ((below_join _ c hc pc).up 6) (scans ra rb la lb 5).1 (scans ra rb la lb 5).2 (pairs_noRefs ra rb) fun n h m m1 m2 i hm h1 h2 => made_joined (n + 7) h r m m1 m2 S W _ _ _ i.run hm (by decide) (by decide) (by decide) (by decide) (by decide) (by decide)
    (joined_join (n + 6) h r m1 m2 S W A B _ _ P i.run h1 h2 (fun d hd => (ra d hd).tup) (fun d hd => (rb d hd).tup) (hh n h i.run) (pairs_small P la lb)) (.inl ⟨_, rfl⟩)
theorem out_match (P : D → D → Bool) (ra : ∀ d ∈ A, Row2 d) (rb : ∀ d ∈ B, Row2 d) (la : A.length ≤ 2000) (lb : B.length ≤ 2000) : Out (Here r S W s1 s2 l1 l2 f1 f2 A B) r 9 (.tup [.str "match", .tup [.tup [.int 1, .int 3]], scanA, scanB]) (lim (pairsP A B eqC)) :=
  out2 here_wd ((below_join _ _ (fun h => part_pair h []) rfl).up 6) (scans ra rb la lb 5).1 (scans ra rb la lb 5).2 (pairs_noRefs ra rb) fun n h m m1 m2 i hm h1 h2 => made_joined (n + 7) h r m m1 m2 S W _ _ _ i.run hm (by decide) (by decide) (by decide) (by decide) (by decide) (by decide)
    (joined_match (n + 6) h r m1 m2 S W A B _ _ eqC i.run h1 h2 (fun d hd => (ra d hd).tup) (fun d hd => (rb d hd).tup) (fun p hp q hq => by
      obtain ⟨s, x, rfl⟩ := ra p hp
      obtain ⟨t, y, rfl⟩ := rb q hq
      exact meets_eq (n + 3) h r _ _ x y) (pairs_small eqC la lb)) (.inl ⟨_, rfl⟩)
theorem out_joinEq (ra : ∀ d ∈ A, Row2 d) (rb : ∀ d ∈ B, Row2 d) (la : A.length ≤ 2000) (lb : B.length ≤ 2000) : Out (Here r S W s1 s2 l1 l2 f1 f2 A B) r 9 (joinP condEq) (lim (pairsP A B eqC)) :=
  out_join condEq eqC (fun h => part_word h _ _) (by decide) ra rb la lb fun n h er p hp q hq => by
    obtain ⟨s, x, rfl⟩ := ra p hp
    obtain ⟨t, y, rfl⟩ := rb q hq
    exact holds_eq n h r S W er _ _ x y
theorem out_joinLit (x : D) (hx : (∃ b, x = .bl b) ∨ x = .non) (ra : ∀ d ∈ A, Row2 d) (rb : ∀ d ∈ B, Row2 d) (la : A.length ≤ 2000) (lb : B.length ≤ 2000) : Out (Here r S W s1 s2 l1 l2 f1 f2 A B) r 9 (joinP (.tup [.str "literal", x])) (lim (pairsP A B fun _ _ => isT x)) :=
  out_join _ _ (fun h => part_word h _ _) rfl ra rb la lb fun n h er p hp q hq => by
    obtain ⟨s, i, rfl⟩ := ra p hp
    obtain ⟨t, j, rfl⟩ := rb q hq
    exact holds_lit (n + 3) h r S W er _ _ _ _ x hx
end Pl

set_option Elab.async false
set_option linter.all false
set_option maxRecDepth 100000
set_option autoImplicit false
set_option maxHeartbeats 0
/-! Pl19: what the drawn plans come to: keep over a cross plan. -/
namespace Pl
open PySem Ev PK Qe
variable {r S W s1 s2 l1 l2 : Nat} {f1 f2 : List (Str × D)} {A B : List D}
def keepP : D := .tup [.str "keep", .tup [.str "literal", .bl false], crossP]
theorem below_keep : Below 2 keepP [crossP] := below_of _ _ _ (fun h => slc_of (by rfl)) (by simp) (fun h d hd => by
  simp at hd; rcases hd with rfl | rfl
  · exact part_word h _ _
  · exact part_word h _ _) rfl rfl
theorem pairs_row4 {P : D → D → Bool} (ra : ∀ d ∈ A, Row2 d) (rb : ∀ d ∈ B, Row2 d) : ∀ d ∈ pairsP A B P, ∃ s i t j, d = .tup [.str s, .int i, .str t, .int j] := fun d hd => by
  simp only [pairsP, List.mem_flatMap, List.mem_map, List.mem_filter] at hd
  obtain ⟨p, hp, q, ⟨hq, -⟩, rfl⟩ := hd
  obtain ⟨s, i, rfl⟩ := ra p hp
  obtain ⟨t, j, rfl⟩ := rb q hq
  exact ⟨s, i, t, j, rfl⟩
theorem out_keep (ra : ∀ d ∈ A, Row2 d) (rb : ∀ d ∈ B, Row2 d) (la : A.length ≤ 2000) (lb : B.length ≤ 2000) : Out (Here r S W s1 s2 l1 l2 f1 f2 A B) r 5 keepP (if 2000 < A.length * B.length then none else some []) := by
  have oc := out_cross (r := r) (S := S) (W := W) (s1 := s1) (s2 := s2) (l1 := l1) (l2 := l2) (f1 := f1) (f2 := f2) ra rb la lb
  by_cases big : 2000 < A.length * B.length
  · rw [if_pos big]
    rw [lim_no (by rw [pairs_all_length]; exact big)] at oc
    exact out1x here_wd (below_keep.up 2) oc
  · rw [if_neg big]
    rw [lim_ok (by rw [pairs_all_length]; omega)] at oc
    have e : (pairsP A B fun _ _ => true).filter (fun _ => false) = [] := by simp
    have := out1 (rows := []) here_wd (below_keep.up 2) oc rfl fun n h m m1 i hm h1 => by
      have := made_keep (n + 3) h r m m1 S W (.tup [.str "literal", .bl false]) [crossP] _ (fun _ => false) i.run hm h1 (fun d hd => by
        obtain ⟨s, i', t, j, rfl⟩ := pairs_row4 ra rb d hd
        exact holds_lit n h r S W i.run _ _ _ _ (.bl false) (.inl ⟨_, rfl⟩)) (pairs_small _ la lb)
      rw [e] at this
      exact this
    exact this
end Pl

set_option Elab.async false
set_option linter.all false
set_option maxRecDepth 100000
set_option autoImplicit false
set_option maxHeartbeats 0
/-! Pl20: plain steps: run. -/
namespace Pl
open PySem Ev PK Qe
theorem k_WorldI : keys.lookup (("World" : Str), ("__init__" : Str)) = some m_WorldU_initU := by rfl
theorem k_RunnerI : keys.lookup (("Runner" : Str), ("__init__" : Str)) = some m_RunnerU_initU := by rfl
theorem k_run : keys.lookup (Str.empty, ("run" : Str)) = some f_run := by rfl
def wld (S p : Nat) : Ob := .ins "World" [("sources", .ref S), ("parameters", .ref p)]
theorem world_init (n : Nat) (h : Hb) (S p : Nat) : (FN (n + 1)).run "World" "__init__" [.ref h.length, .ref S, .ref p] (h ++ [.ins "World" []]) = some (.ok .non (h ++ [wld S p])) := by
  rw [run_of k_WorldI]
  simp [runDf, m_WorldU_initU, startEn, qE_var, qE_int, qE_bl, qE_non, qE_str, qE_gint, qE_gtup, qE_bin, qE_neg, qE_notv, qE_andv, qE_orv, qE_cmp, qE_ite, qE_call, qE_make, qE_meth, qE_blt, qE_isin, qE_bm, qE_fld, qE_idx, qE_slc, qE_tup, qE_lst, qE_dnewT, qE_dnewK, qE_disp, qE_lvals, qL_nil, qL_cons, qO_none, qO_some, qT_and, qT_or, qT_not, qT_ex, qT_cmp, qT_yes, qI_val, qI_rng, qI_rng1, qI_enum, qS_expr, qS_ret, qS_retN, qS_asg_tg, qS_asg_fld, qS_asg_sub, qS_par, qS_aug, qS_augS, qS_ifs, qS_raise, qS_tryO, qS_brk, qS_cont, qS_pass, qSs_nil, qSs_cons, qE_comp, qE_comp2, qS_fors, qS_forV, qS_whil, sB_ok, sB_exc, bnd_ok, bnd_exc, getVar, setVar, bindTg, cmpD, eqD, isD, inD, inTup, scalEq, scalar, flat, flatEq, isAny, tyOf, kitD, tru, nvRes, bltD, binD, idxD, ix_0, ix_1, ix_2, ix_3, ix_4, str_beq, Ev.newList, noX, okX, augD, nonNegIx, fits62, Tg.slots, Ev.wipe, str_inj, sizeLine_eq', putFld, putA, at_new0, wld, gc_app1n]
theorem gc_app2n (h : Hb) (o o1 o2 : Ob) (ne : o1 ≠ o) : gc (h ++ [o]).length (h ++ [o]) .non (h ++ [o1, o2]) = .ok .non (h ++ [o1, o2]) := by
  unfold gc
  rw [if_neg]
  intro k
  have : (h ++ [o1, o2]).take (h ++ [o]).length = h ++ [o1] := by
    rw [show h ++ [o1, o2] = (h ++ [o1]) ++ [o2] by simp, List.take_append_of_le_length (by simp)]
    exact List.take_of_length_le (by simp)
  rw [this] at k
  exact ne (by simpa using k)
theorem runner_init (n : Nat) (h : Hb) (S p : Nat) : (FN (n + 2)).run "Runner" "__init__" [.ref h.length, .ref S, .ref p] (h ++ [.ins "Runner" []]) = some (.ok .non (h ++ [rnr S (h.length + 1), wld S p])) := by
  rw [run_of k_RunnerI]
  have wi := world_init n (h ++ [.ins "Runner" [("sources", .ref S)]]) S p
  simp only [List.append_assoc, List.length_append, List.length_cons, List.length_nil, List.cons_append, List.nil_append, Nat.zero_add] at wi
  have g := gc_app2n h (.ins "Runner" []) (rnr S (h.length + 1)) (wld S p) (by simp [rnr])
  simp only [rnr, List.length_append, List.length_cons, List.length_nil, Nat.zero_add] at g
  simp [runDf, m_RunnerU_initU, startEn, qE_var, qE_int, qE_bl, qE_non, qE_str, qE_gint, qE_gtup, qE_bin, qE_neg, qE_notv, qE_andv, qE_orv, qE_cmp, qE_ite, qE_call, qE_make, qE_meth, qE_blt, qE_isin, qE_bm, qE_fld, qE_idx, qE_slc, qE_tup, qE_lst, qE_dnewT, qE_dnewK, qE_disp, qE_lvals, qL_nil, qL_cons, qO_none, qO_some, qT_and, qT_or, qT_not, qT_ex, qT_cmp, qT_yes, qI_val, qI_rng, qI_rng1, qI_enum, qS_expr, qS_ret, qS_retN, qS_asg_tg, qS_asg_fld, qS_asg_sub, qS_par, qS_aug, qS_augS, qS_ifs, qS_raise, qS_tryO, qS_brk, qS_cont, qS_pass, qSs_nil, qSs_cons, qE_comp, qE_comp2, qS_fors, qS_forV, qS_whil, sB_ok, sB_exc, bnd_ok, bnd_exc, getVar, setVar, bindTg, cmpD, eqD, isD, inD, inTup, scalEq, scalar, flat, flatEq, isAny, tyOf, kitD, tru, nvRes, bltD, binD, idxD, ix_0, ix_1, ix_2, ix_3, ix_4, str_beq, Ev.newList, noX, okX, augD, nonNegIx, fits62, Tg.slots, Ev.wipe, str_inj, sizeLine_eq', putFld, putA, at_new0, rnr, wi, g]
end Pl

set_option Elab.async false
set_option linter.all false
set_option maxRecDepth 100000
set_option autoImplicit false
set_option maxHeartbeats 0
/-! Pl21: plain steps: run of a plan. -/
namespace Pl
open PySem Ev PK Qe
theorem run_plan {n k : Nat} {h : Hb} {S p : Nat} {plan : D} {o : Option (List D)} (hk : 2 ≤ k) (nr : ∀ A, o = some A → noRef.noRefs A = true)
    (ho : (FN (n + k)).run "Runner" "rows" [.ref h.length, plan] (h ++ [rnr S (h.length + 1), wld S p]) = res (h ++ [rnr S (h.length + 1), wld S p]) o) :
    (FN (n + k + 1)).run Str.empty "run" [plan, .ref S, .ref p] h = res h o := by
  rw [run_of k_run]
  obtain ⟨j, rfl⟩ : ∃ j, k = j + 2 := ⟨k - 2, by omega⟩
  have hm' : (fnN pg WF (n + (j + 2))).has "Runner" "rows" = true := has_rows
  have em : evE (FN (n + (j + 2))) (.make "Runner" (.cons (.var 1) (.cons (.var 2) .nil))) [some plan, some (.ref S), some (.ref p)] h = some (.ok (.ref h.length) (h ++ [rnr S (h.length + 1), wld S p])) := by
    rw [qE_make, evL2 (ev_var (d := .ref S) rfl) (ev_var (d := .ref p) rfl), bnd_ok, show (FN (n + (j + 2))).run "Runner" "__init__" [.ref h.length, .ref S, .ref p] (h ++ [.ins "Runner" []]) = _ from runner_init (n + j) h S p, bnd_ok]
  have hr : (h ++ [rnr S (h.length + 1), wld S p])[h.length]? = some (rnr S (h.length + 1)) := by rw [at_new0]; rfl
  have ev : evE (FN (n + (j + 2))) (.meth (.make "Runner" (.cons (.var 1) (.cons (.var 2) .nil))) "rows" (.cons (.var 0) .nil)) [some plan, some (.ref S), some (.ref p)] h = res (h ++ [rnr S (h.length + 1), wld S p]) o := by
    rw [qE_meth, em]
    simp only [noX, bnd_ok, hr]
    simp only [show rnr S (h.length + 1) = .ins "Runner" [("sources", .ref S), ("world", .ref (h.length + 1))] from rfl]
    rw [if_pos ⟨rfl, hm'⟩, evL1 (ev_var (d := plan) rfl), bnd_ok]
    exact ho
  cases o with
  | none =>
    have e3 : evSs (FN (n + (j + 2))) pg.above WF f_run.body (startEn f_run [plan, .ref S, .ref p]) h = _ := ret_exc ev
    rw [run_exc (d := f_run) rfl e3]
    exact congrArg some (gcX_ext h _ _)
  | some A =>
    have e3 : evSs (FN (n + (j + 2))) pg.above WF f_run.body (startEn f_run [plan, .ref S, .ref p]) h = _ := ret_ev ev
    rw [run_ret (d := f_run) rfl e3]
    rw [List.append_assoc, List.length_append]
    exact congrArg some (gc_list h _ 2 A (by rfl) (nr A rfl))
end Pl

set_option Elab.async false
set_option linter.all false
set_option maxRecDepth 100000
set_option autoImplicit false
set_option maxHeartbeats 0
/-! Pl22: a comprehension whose turns leave garbage. -/
namespace Pl
open PySem Ev PK Qe
theorem grow_from {J : It} {g : Tg} {c : En → Hb → RO Bool} {e : En → Hb → RO D} {ρ : En} {h : Hb} {ds : List D} {p : D → Bool} {f : D → D} (hat : ∀ G i, J.at (h ++ G) i = some ds[i]?)
    (hb : ∀ d ∈ ds, ∃ ρ', bindTg ρ g d = some ρ' ∧ ∀ G, c ρ' (h ++ G) = some (.ok (p d) (h ++ G)) ∧ (p d = true → ∃ G', e ρ' (h ++ G) = some (.ok (f d) (h ++ G')))) :
    ∀ (m i : Nat) (acc : List D) (G : Hb), i + m = ds.length → acc.length + ((ds.drop i).filter p).length ≤ sizeLine → ∃ G', compLoop J g c e ρ (m + 1) i acc (h ++ G) = some (.ok (acc ++ ((ds.drop i).filter p).map f) (h ++ G')) := by
  intro m
  induction m with
  | zero =>
    intro i acc G hi hl
    have hn : ds[i]? = none := List.getElem?_eq_none (by omega)
    have hd : ds.drop i = [] := List.drop_eq_nil_of_le (by omega)
    exact ⟨G, by simp only [compLoop, hat, hn, hd]; simp⟩
  | succ m ih =>
    intro i acc G hi hl
    have lt : i < ds.length := by omega
    have hn : ds[i]? = some ds[i] := List.getElem?_eq_getElem lt
    have hd : ds.drop i = ds[i] :: ds.drop (i + 1) := List.drop_eq_getElem_cons lt
    obtain ⟨ρ', b1, b2⟩ := hb ds[i] (List.getElem_mem lt)
    rw [hd] at hl ⊢
    cases hp : p ds[i] with
    | false =>
      rw [List.filter_cons_of_neg (by simp [hp])] at hl ⊢
      obtain ⟨G', e1⟩ := ih (i + 1) acc G (by omega) hl
      exact ⟨G', by rw [compLoop]; simp only [hat, hn, b1, (b2 G).1, hp, bnd_ok]; exact e1⟩
    | true =>
      rw [List.filter_cons_of_pos hp] at hl ⊢
      simp only [List.length_cons] at hl
      obtain ⟨G1, e1⟩ := (b2 G).2 hp
      obtain ⟨G', e2⟩ := ih (i + 1) (acc ++ [f ds[i]]) G1 (by omega) (by simp only [List.length_append, List.length_cons, List.length_nil]; omega)
      refine ⟨G', ?_⟩
      rw [compLoop]
      simp only [hat, hn, b1, (b2 G).1, hp, bnd_ok, e1]
      rw [if_pos (by omega), e2]
      simp
end Pl

set_option Elab.async false
set_option linter.all false
set_option maxRecDepth 100000
set_option autoImplicit false
set_option maxHeartbeats 0
/-! Pl23: plain steps: made of a pick plan. -/
namespace Pl
open PySem Ev PK Qe
theorem ev_grow {F : Fn} {ρ : En} {h : Hb} {x : Bool} {g : Nat} {it e : Ex} {c : Tx} {m : Nat} {ds : List D} {P : D → Bool} {f : D → D} (hi : evE F it ρ h = some (.ok (.ref m) h)) (hm : h[m]? = some (.lst ds))
    (hb : ∀ d ∈ ds, ∀ G, evT F c (setVar (Ev.wipe ρ [g]) g d) (h ++ G) = some (.ok (P d) (h ++ G)) ∧ (P d = true → ∃ G', evE F e (setVar (Ev.wipe ρ [g]) g d) (h ++ G) = some (.ok (f d) (h ++ G')))) (hl : (ds.filter P).length ≤ sizeLine) :
    ∃ G, evE F (.comp x (.nm g) (.val it) c e) ρ h = some (.ok (.ref (h ++ G).length) ((h ++ G) ++ [.lst ((ds.filter P).map f)])) := by
  have it1 : evI F (.val it) ρ h = some (.ok (.lst m) h) := by
    rw [qI_val, hi]; simp [bnd_ok, items, hm]
  obtain ⟨G, key⟩ := grow_from (J := .lst m) (g := .nm g) (c := evT F c) (e := evE F e) (ρ := Ev.wipe ρ (Tg.nm g).slots) (h := h) (ds := ds) (p := P) (f := f) (fun G => at_lst (at_old hm)) (fun d hd => ⟨_, rfl, hb d hd⟩) ds.length 0 [] [] (by omega) (by simpa using hl)
  refine ⟨G, ?_⟩
  rw [List.append_nil] at key
  rw [qE_comp, it1, bnd_ok, size_lst hm, key]
  cases x <;> rfl
/-- .. over a tuple -/
theorem ev_compT {F : Fn} {ρ : En} {h : Hb} {x : Bool} {g : Nat} {it e : Ex} {c : Tx} {ds : List D} {P : D → Bool} {f : D → D} (hi : evE F it ρ h = some (.ok (.tup ds) h))
    (hb : ∀ d ∈ ds, evT F c (setVar (Ev.wipe ρ [g]) g d) h = some (.ok (P d) h) ∧ (P d = true → evE F e (setVar (Ev.wipe ρ [g]) g d) h = some (.ok (f d) h))) (hl : (ds.filter P).length ≤ sizeLine) :
    evE F (.comp x (.nm g) (.val it) c e) ρ h = some (.ok (.ref h.length) (h ++ [.lst ((ds.filter P).map f)])) := by
  have it1 : evI F (.val it) ρ h = some (.ok (.tup ds) h) := by
    rw [qI_val, hi]; rfl
  rw [qE_comp, it1, bnd_ok]
  have key := comp_all (J := .tup ds) (g := .nm g) (c := evT F c) (e := evE F e) (ρ := Ev.wipe ρ (Tg.nm g).slots) (h := h) (ds := ds) (p := P) (f := f) (fun i => rfl) rfl (fun d hd => ⟨_, rfl, (hb d hd).1, (hb d hd).2⟩) [] (by simpa using hl)
  rw [key]
  cases x <;> rfl
end Pl

set_option Elab.async false
set_option linter.all false
set_option maxRecDepth 100000
set_option autoImplicit false
set_option maxHeartbeats 0
/-! Pl24: plain steps: made of a pick plan. -/
namespace Pl
open PySem Ev PK Qe
theorem has_value : pg.hasM "Runner" "value" = true := by decide +kernel
/-- rows of a pick plan of one column -/
theorem made_pick (n : Nat) (h : Hb) (r m m1 S W : Nat) (c : D) (rest : List D) (rows : List D) (f : D → D) (er : h[r]? = some (rnr S W)) (hm : h[m]? = some (.lst [.ref m1])) (h1 : h[m1]? = some (.lst rows)) (hl : rows.length ≤ sizeLine) (nr : ∀ d ∈ rows, noRef (f d) = true)
    (hc : ∀ d ∈ rows, ∀ H : Hb, H[r]? = some (rnr S W) → (FN n).run "Runner" "value" [.ref r, c, d, .non] H = some (.ok (f d) H)) :
    (FN (n + 1)).run "Runner" "made" [.ref r, .tup (.str "pick" :: .tup [c] :: rest), .ref m] h = some (.ok (.ref h.length) (h ++ [.lst (rows.map fun d => .tup [f d])])) := by
  rw [run_of k_made]
  have ev := ev_grow (F := FN n) (ρ := [some (.ref r), some (.tup (.str "pick" :: .tup [c] :: rest)), some (.ref m), none, none]) (h := h) (x := true) (g := 3) (it := .idx (.var 2) (.int 0)) (c := .yes) (m := m1) (ds := rows) (P := fun _ => true) (f := fun d => .tup [f d])
    (e := .blt .tuple (.cons (.comp false (.nm 4) (.val (.idx (.var 1) (.int 1))) .yes (.meth (.var 0) "value" (.cons (.var 4) (.cons (.var 3) (.cons .non .nil))))) .nil))
    (ev_idx (e := .ref m1) (d := .ref m) rfl (by simp [idxD, hm, ix_0])) h1 (fun d hd G => ⟨qT_yes, fun _ => ⟨G ++ [.lst [f d]], by
      have inner := ev_compT (F := FN n) (ρ := [some (.ref r), some (.tup (.str "pick" :: .tup [c] :: rest)), some (.ref m), some d, none]) (h := h ++ G) (x := false) (g := 4) (it := .idx (.var 1) (.int 1)) (c := .yes) (ds := [c]) (P := fun _ => true) (f := fun _ => f d) (e := .meth (.var 0) "value" (.cons (.var 4) (.cons (.var 3) (.cons .non .nil))))
        (ev_idx (e := .tup [c]) (d := .tup (.str "pick" :: .tup [c] :: rest)) rfl (by simp [idxD, ix_1])) (fun y hy => ⟨qT_yes, fun _ => by
          simp at hy; subst hy
          rw [ev_meth (r := r) rfl (at_old er) (by intro fs e; cases e; rfl) has_value (evL3 (ev_var (d := y) rfl) (ev_var (d := d) rfl) (by rw [qE_non]))]
          exact hc d hd _ (at_old er)⟩) (by rw [sizeLine_eq']; simp)
      show evE _ _ [some (.ref r), some (.tup (.str "pick" :: .tup [c] :: rest)), some (.ref m), some d, none] _ = _
      rw [qE_blt, qL_cons, inner]
      simp [bnd_ok, qL_nil, bltD, items, nvRes]⟩⟩) (Nat.le_trans (List.length_filter_le _ rows) hl)
  obtain ⟨G, ev⟩ := ev
  have e3 : evSs (FN n) pg.above WF m_Runner_made.body (startEn m_Runner_made [.ref r, .tup (.str "pick" :: .tup [c] :: rest), .ref m]) h = _ :=
    (skip (wordF rfl (by decide))).trans ((skip (wordF rfl (by decide))).trans ((skip (wordF rfl (by decide))).trans (hit (wordT rfl) (ret_ev ev))))
  have l : (rows.filter fun _ => true) = rows := List.filter_eq_self.mpr fun _ _ => rfl
  rw [run_ret (d := m_Runner_made) rfl e3, l, List.append_assoc, List.length_append]
  exact congrArg some (gc_list h _ G.length _ (by simp) (noRefs_of fun d hd => by
    simp only [List.mem_map] at hd
    obtain ⟨x, hx, rfl⟩ := hd
    simp [noRef, noRef.noRefs, nr x hx]))
end Pl

set_option Elab.async false
set_option linter.all false
set_option maxRecDepth 100000
set_option autoImplicit false
set_option maxHeartbeats 0
/-! Pl25: what the drawn plans come to: pick over a cross plan. -/
namespace Pl
open PySem Ev PK Qe
variable {r S W s1 s2 l1 l2 : Nat} {f1 f2 : List (Str × D)} {A B : List D}
def colP : D := .tup [.str "column", .non, .str "1"]
def pickP : D := .tup [.str "pick", .tup [colP], crossP]
def cell1 : D → D
  | .tup (_ :: d :: _) => d
  | d => d
theorem value_c4 (n : Nat) (H : Hb) (er : H[r]? = some (rnr S W)) (a c : D) (i : Int) (j : D) (mem : D) : (FN (n + 5)).run "Runner" "value" [.ref r, colP, .tup [a, .int i, c, j], mem] H = some (.ok (.int i) H) := by
  have hv := value_col named4_1 (n + 1) (H ++ [.lst cols4, frm H.length (.tup [a, .int i, c, j]) mem]) (H.length + 1) H.length W [a, .int i, c, j] mem (.int i) (by rw [at_new]; rfl) (by rw [at_new0]; rfl) (by rw [ix_1]; rfl) rfl
  exact rv4 (n + 3) H r S W colP mem a (.int i) c j _ er rfl hv
theorem below_pick : Below 2 pickP [crossP] := below_of _ _ _ (fun h => slc_of (by rfl)) (by simp) (fun h d hd => by
  simp at hd; rcases hd with rfl | rfl
  · exact part_col h []
  · exact part_word h _ _) rfl rfl
theorem out_pick (ra : ∀ d ∈ A, Row2 d) (rb : ∀ d ∈ B, Row2 d) (la : A.length ≤ 2000) (lb : B.length ≤ 2000) : Out (Here r S W s1 s2 l1 l2 f1 f2 A B) r 7 pickP (if 2000 < A.length * B.length then none else some ((pairsP A B fun _ _ => true).map fun d => .tup [cell1 d])) := by
  have oc := (out_cross (r := r) (S := S) (W := W) (s1 := s1) (s2 := s2) (l1 := l1) (l2 := l2) (f1 := f1) (f2 := f2) ra rb la lb).up 2
  by_cases big : 2000 < A.length * B.length
  · rw [if_pos big]
    rw [lim_no (by rw [pairs_all_length]; exact big)] at oc
    exact out1x here_wd (below_pick.up 4) oc
  · rw [if_neg big]
    rw [lim_ok (by rw [pairs_all_length]; omega)] at oc
    have := out1 (rows := (pairsP A B fun _ _ => true).map fun d => .tup [cell1 d]) here_wd (below_pick.up 4) oc (noRefs_of fun d hd => by
      simp only [List.mem_map] at hd
      obtain ⟨x, hx, rfl⟩ := hd
      obtain ⟨s, i, t, j, rfl⟩ := pairs_row4 ra rb x hx
      rfl) fun n h m m1 i hm h1 => made_pick (n + 5) h r m m1 S W colP [crossP] _ cell1 i.run hm h1 (pairs_small _ la lb) (fun d hd => by
        obtain ⟨s, i', t, j, rfl⟩ := pairs_row4 ra rb d hd
        rfl) fun d hd H er => by
        obtain ⟨s, i', t, j, rfl⟩ := pairs_row4 ra rb d hd
        exact value_c4 n H er _ _ i' _ _
    rw [lim_ok (by rw [List.length_map, pairs_all_length]; omega)] at this
    exact this
end Pl

set_option Elab.async false
set_option linter.all false
set_option maxRecDepth 100000
set_option autoImplicit false
set_option maxHeartbeats 0
/-! Pl26: rows as data: == and in. -/
namespace Pl
open PySem Ev PK Qe
def cellOk : D → Bool
  | .non | .int _ => true
  | .str s => PyData.strOk s
  | _ => false
def cpy : D → PyData
  | .int i => .int i
  | .str s => .str s
  | _ => .none
def rowOk : D → Bool
  | .tup cs => cs.all cellOk && decide (cs.length ≤ 8)
  | _ => false
def rpy : D → PyData
  | .tup cs => .tuple (cs.map cpy)
  | _ => .none
theorem cell_py {d : D} (hd : cellOk d = true) (n : Nat) (H : Hb) : toPy (n + 1) H d = some (cpy d) := by
  cases d <;> simp [cellOk] at hd <;> rfl
theorem mapM_some {α β : Type} {f : α → Option β} {g : α → β} : ∀ {cs : List α}, (∀ c ∈ cs, f c = some (g c)) → cs.mapM f = some (cs.map g)
  | [], _ => rfl
  | c :: cs, hc => by
    rw [List.mapM_cons, hc c (by simp), mapM_some fun d hd => hc d (by simp [hd])]
    rfl
theorem toPy_tup (n : Nat) (h : Hb) (ds : List D) : toPy (n + 1) h (.tup ds) = (ds.mapM (toPy n h)).map PyData.tuple := rfl
theorem toPy_ref {n : Nat} {h : Hb} {k : Nat} {ds : List D} (e : h[k]? = some (.lst ds)) : toPy (n + 1) h (.ref k) = (ds.mapM (toPy n h)).map PyData.list := by
  show (match h[k]? with
    | some (.lst ds) => (ds.mapM (toPy n h)).map PyData.list
    | _ => none) = _
  rw [e]
theorem row_py {d : D} (hd : rowOk d = true) (n : Nat) (H : Hb) : toPy (n + 2) H d = some (rpy d) := by
  cases d with
  | tup cs =>
    simp only [rowOk, Bool.and_eq_true, List.all_eq_true] at hd
    rw [toPy_tup, mapM_some (g := cpy) fun c hc => cell_py (hd.1 c hc) n H]
    rfl
  | _ => simp [rowOk] at hd
theorem rows_py {rs : List D} {H : Hb} {m : Nat} (hm : H[m]? = some (.lst rs)) (hr : ∀ d ∈ rs, rowOk d = true) (n : Nat) : toPy (n + 3) H (.ref m) = some (.list (rs.map rpy)) := by
  rw [toPy_ref hm, mapM_some (g := rpy) fun c hc => row_py (hr c hc) n H]
  rfl
theorem cells_can : ∀ {cs : List D}, (∀ d ∈ cs, cellOk d = true) → PyData.canLayAll0 (cs.map cpy) = true ∧ PyData.depthAll (cs.map cpy) = 0
  | [], _ => ⟨by simp [PyData.canLayAll0], by simp [PyData.depthAll]⟩
  | c :: cs, h => by
    have ih := cells_can (cs := cs) fun d hd => h d (by simp [hd])
    have hc := h c (by simp)
    simp only [List.map_cons, PyData.canLayAll0, PyData.depthAll, ih.1, ih.2, Bool.and_true]
    cases c <;> simp [cellOk] at hc <;> simp [cpy, PyData.canLay0, PyData.depth, hc]
theorem row_can {d : D} (hd : rowOk d = true) : PyData.canLay0 (rpy d) = true ∧ PyData.depth (rpy d) = 1 := by
  cases d with
  | tup cs =>
    simp only [rowOk, Bool.and_eq_true, List.all_eq_true] at hd
    have := cells_can hd.1
    simp only [rpy, PyData.canLay0, PyData.depth, this.1, this.2, and_self]
  | _ => simp [rowOk] at hd
theorem rows_can : ∀ {rs : List D}, (∀ d ∈ rs, rowOk d = true) → PyData.canLayAll0 (rs.map rpy) = true ∧ PyData.depthAll (rs.map rpy) ≤ 1
  | [], _ => ⟨by simp [PyData.canLayAll0], by simp [PyData.depthAll]⟩
  | c :: cs, h => by
    have ih := rows_can (rs := cs) fun d hd => h d (by simp [hd])
    have hc := row_can (h c (by simp))
    simp only [List.map_cons, PyData.canLayAll0, PyData.depthAll, ih.1, hc.1, hc.2, Bool.and_true, true_and]
    have := ih.2
    omega
theorem row_shaped {d : D} (hd : rowOk d = true) : SeqAt.shaped (rpy d) = true := by
  have := row_can hd
  simp only [SeqAt.shaped, this.1, this.2, Bool.true_and]
  decide
theorem rows_shaped {rs : List D} (hr : ∀ d ∈ rs, rowOk d = true) : SeqAt.shaped (.list (rs.map rpy)) = true := by
  have := rows_can hr
  have h2 := this.2
  simp only [SeqAt.shaped, PyData.canLay0, PyData.depth, this.1, Bool.true_and]
  exact decide_eq_true (by omega)
theorem nil_shaped : SeqAt.shaped (.list []) = true := by decide +kernel
theorem eqv_cell {a b : D} (ha : cellOk a = true) (hb : cellOk b = true) : PyData.eqv (cpy a) (cpy b) = decide (a = b) := by
  cases a <;> simp [cellOk] at ha <;> cases b <;> simp [cellOk] at hb <;> simp [cpy, PyData.eqv]
  · exact Bool.beq_eq_decide_eq _ _
  · exact Bool.beq_eq_decide_eq _ _
theorem eqv_cells : ∀ {as bs : List D}, (∀ d ∈ as, cellOk d = true) → (∀ d ∈ bs, cellOk d = true) → PyData.eqvAll (as.map cpy) (bs.map cpy) = decide (as = bs)
  | [], [], _, _ => by simp [PyData.eqvAll]
  | [], _ :: _, _, _ => by simp [PyData.eqvAll]
  | _ :: _, [], _, _ => by simp [PyData.eqvAll]
  | a :: as, b :: bs, ha, hb => by
    simp only [List.map_cons, PyData.eqvAll, eqv_cell (ha a (by simp)) (hb b (by simp)), eqv_cells (as := as) (bs := bs) (fun d hd => ha d (by simp [hd])) fun d hd => hb d (by simp [hd])]
    by_cases h1 : a = b <;> by_cases h2 : as = bs <;> simp [h1, h2]
theorem eqv_row {a b : D} (ha : rowOk a = true) (hb : rowOk b = true) : PyData.eqv (rpy a) (rpy b) = decide (a = b) := by
  cases a with
  | tup as =>
    cases b with
    | tup bs =>
      simp only [rowOk, Bool.and_eq_true, List.all_eq_true] at ha hb
      simp only [rpy, PyData.eqv, eqv_cells ha.1 hb.1]
      by_cases h : as = bs <;> simp [h]
    | _ => simp [rowOk] at hb
  | _ => simp [rowOk] at ha
/-- rows == [] -/
theorem eq_nil {rs : List D} {H : Hb} {m k : Nat} (hm : H[m]? = some (.lst rs)) (hk : H[k]? = some (.lst [])) (hr : ∀ d ∈ rs, rowOk d = true) : eqD H (.ref m) (.ref k) = some rs.isEmpty := by
  have p1 := rows_py hm hr 57
  have p2 := rows_py hk (by simp) 57
  unfold eqD
  rw [if_neg (by simp [scalar])]
  unfold deepEq
  rw [p1, p2]
  simp only [List.map_nil]
  rw [if_pos ⟨rows_shaped hr, nil_shaped⟩]
  cases rs <;> simp [PyData.eqv, PyData.eqvAll]
/-- row in rows -/
theorem in_rows {rs : List D} {H : Hb} {m : Nat} {x : D} (hm : H[m]? = some (.lst rs)) (hx : rowOk x = true) (hr : ∀ d ∈ rs, rowOk d = true) : inD H x (.ref m) = some (decide (x ∈ rs)) := by
  have p1 := rows_py hm hr 57
  have p2 := row_py hx 58 H
  have fx : flat x = false := by cases x <;> simp [rowOk] at hx; rfl
  simp only [inD, items_of hm]
  rw [if_neg (by simp [fx]), p1, p2]
  simp only []
  rw [if_pos ⟨row_shaped hx, rows_shaped hr⟩]
  congr 1
  rw [Bool.eq_iff_iff, decide_eq_true_eq, List.any_map, List.any_eq_true]
  constructor
  · rintro ⟨d, hd, e⟩
    simp only [Function.comp, eqv_row (hr d hd) hx, decide_eq_true_eq] at e
    exact e ▸ hd
  · intro hd
    exact ⟨x, hd, by simp only [Function.comp, eqv_row (hr x hd) hx]; simp⟩
end Pl

set_option Elab.async false
set_option linter.all false
set_option maxRecDepth 100000
set_option autoImplicit false
set_option maxHeartbeats 0
/-! Pl27: loops that fold; row_key; without_repeats. -/
namespace Pl
open PySem Ev PK Qe
/-- a loop by what holds behind the turns of a beginning -/
theorem fold_from {J : It} {g : Tg} {b : En → Hb → Option SR} {ds : List D} {I : List D → En → Hb → Prop} (hat : ∀ s ρ h, I s ρ h → ∀ i, J.at h i = some ds[i]?)
    (hb : ∀ s ρ h d, I s ρ h → (∃ t, ds = s ++ d :: t) → ∃ ρ1 ρ2 h2, bindTg ρ g d = some ρ1 ∧ b ρ1 h = some (.nx ρ2 h2) ∧ I (s ++ [d]) ρ2 h2) :
    ∀ (m : Nat) (s t : List D) (ρ : En) (h : Hb), ds = s ++ t → t.length = m → I s ρ h → ∃ ρ' h', forLoop J g b (m + 1) s.length ρ h = some (.nx ρ' h') ∧ I ds ρ' h' := by
  intro m
  induction m with
  | zero =>
    intro s t ρ h hi hm is
    have ht : t = [] := List.length_eq_zero_iff.mp hm
    subst ht
    rw [List.append_nil] at hi
    have hn : ds[s.length]? = none := List.getElem?_eq_none (by rw [hi]; omega)
    exact ⟨ρ, h, by simp only [forLoop, hat s ρ h is, hn], by rw [hi]; exact is⟩
  | succ m ih =>
    intro s t ρ h hi hm is
    cases t with
    | nil => simp at hm
    | cons d t =>
      have hn : ds[s.length]? = some d := by rw [hi]; simp
      obtain ⟨ρ1, ρ2, h2, e1, e2, i2⟩ := hb s ρ h d is ⟨t, hi⟩
      obtain ⟨ρ', h', e3, i3⟩ := ih (s ++ [d]) t ρ2 h2 (by rw [hi]; simp) (by simpa using hm) i2
      refine ⟨ρ', h', ?_, i3⟩
      rw [forLoop]
      simp only [hat s ρ h is, hn, e1, e2]
      rw [List.length_append] at e3
      exact e3
/-- a loop over what an expression names -/
theorem fors_fold {F : Fn} {U : Above} {Wf : Nat} {J : It} {g : Tg} {it : Itx} {b : SxL} {ds : List D} {ρ : En} {h h0 : Hb} (I : List D → En → Hb → Prop) (hi : evI F it ρ h = some (.ok J h0)) (hz : J.size h0 = ds.length) (hs : I [] ρ h0) (hat : ∀ s ρ h, I s ρ h → ∀ i, J.at h i = some ds[i]?)
    (hb : ∀ s ρ h d, I s ρ h → (∃ t, ds = s ++ d :: t) → ∃ ρ1 ρ2 h2, bindTg ρ g d = some ρ1 ∧ evSs F U Wf b ρ1 h = some (.nx ρ2 h2) ∧ I (s ++ [d]) ρ2 h2) :
    ∃ ρ' h', evS F U Wf (.fors g it b) ρ h = some (.nx ρ' h') ∧ I ds ρ' h' := by
  obtain ⟨ρ', h', e, i⟩ := fold_from hat hb ds.length [] ds ρ h0 rfl rfl hs
  exact ⟨ρ', h', by rw [qS_fors, hi, sB_ok, hz]; exact e, i⟩
theorem at_last (h : Hb) (o : Ob) : (h ++ [o])[h.length]? = some o := by rw [at_new0]; rfl
theorem set_new (h G : Hb) (x y : Ob) : (h ++ x :: G).set h.length y = h ++ y :: G := by
  rw [List.set_append_right _ _ (by omega)]; simp
theorem at_newc (h G : Hb) (x : Ob) : (h ++ x :: G)[h.length]? = some x := by rw [at_new0]; rfl
theorem ev_append {F : Fn} {U : Above} {Wf : Nat} {ρ : En} {h h' : Hb} {x n : Nat} {e : Ex} {d : D} {xs : List D} (hx : getVar ρ x = some (.ref n)) (hn0 : (items h n).isSome = true) (he : evE F e ρ h = some (.ok d h')) (hn : h'[n]? = some (.lst xs)) (hl : xs.length < sizeLine) :
    evS F U Wf (.expr (.bm .append (.var x) (.cons e .nil))) ρ h = some (.nx ρ (h'.set n (.lst (xs ++ [d])))) := by
  rw [qS_expr, qE_bm, ev_var hx, bnd_ok]
  simp only [bmT, hn0, if_true]
  rw [qL_cons, he, bnd_ok, qL_nil, bnd_ok, bnd_ok]
  simp only [bmD, hn, if_pos hl, sB_ok]
theorem ev_extend {F : Fn} {U : Above} {Wf : Nat} {ρ : En} {h h' : Hb} {x n : Nat} {e : Ex} {ys xs : List D} (hx : getVar ρ x = some (.ref n)) (hn0 : (items h n).isSome = true) (he : evE F e ρ h = some (.ok (.tup ys) h')) (hn : h'[n]? = some (.lst xs)) (hl : xs.length + ys.length ≤ sizeLine) :
    evS F U Wf (.expr (.bm .extend (.var x) (.cons e .nil))) ρ h = some (.nx ρ (h'.set n (.lst (xs ++ ys)))) := by
  rw [qS_expr, qE_bm, ev_var hx, bnd_ok]
  simp only [bmT, hn0, if_true]
  rw [qL_cons, he, bnd_ok, qL_nil, bnd_ok, bnd_ok]
  simp only [bmD, hn, if_pos hl, sB_ok]
theorem ev_extendL {F : Fn} {U : Above} {Wf : Nat} {ρ : En} {h h' : Hb} {x n m : Nat} {e : Ex} {ys xs : List D} (hx : getVar ρ x = some (.ref n)) (hn0 : (items h n).isSome = true) (he : evE F e ρ h = some (.ok (.ref m) h')) (hm : h'[m]? = some (.lst ys)) (ne : n ≠ m) (hn : h'[n]? = some (.lst xs)) (hl : xs.length + ys.length ≤ sizeLine) :
    evS F U Wf (.expr (.bm .extend (.var x) (.cons e .nil))) ρ h = some (.nx ρ (h'.set n (.lst (xs ++ ys)))) := by
  rw [qS_expr, qE_bm, ev_var hx, bnd_ok]
  simp only [bmT, hn0, if_true]
  rw [qL_cons, he, bnd_ok, qL_nil, bnd_ok, bnd_ok]
  simp only [bmD, hn, hm, if_pos (And.intro ne hl), sB_ok]
theorem k_row_key : keys.lookup (Str.empty, ("row_key" : Str)) = some f_row_key := by rfl
theorem foldl_vkey (cs : List D) : ∀ s : List D, cs.foldl (fun s d => s ++ vkey d) s = s ++ cs.flatMap vkey := by
  induction cs with
  | nil => intro s; simp
  | cons c cs ih => intro s; simp [List.foldl_cons, ih, List.append_assoc]
theorem vkey_len (d : D) : (vkey d).length ≤ 2 := by cases d <;> simp [vkey]
theorem vkey_all (cs : List D) : (cs.flatMap vkey).length ≤ 2 * cs.length := by
  induction cs with
  | nil => simp
  | cons c cs ih => have := vkey_len c; simp only [List.flatMap_cons, List.length_append, List.length_cons]; omega
theorem vkey_noRef (d : D) : noRef.noRefs (vkey d) = true := by cases d <;> rfl
theorem noRefs_app : ∀ {as bs : List D}, noRef.noRefs as = true → noRef.noRefs bs = true → noRef.noRefs (as ++ bs) = true
  | [], _, _, h => h
  | a :: as, bs, h, h' => by
    simp only [noRef.noRefs, Bool.and_eq_true] at h
    simp only [List.cons_append, noRef.noRefs, h.1, noRefs_app h.2 h', Bool.and_self]
theorem vkeys_noRef : ∀ cs : List D, noRef.noRefs (cs.flatMap vkey) = true
  | [] => rfl
  | c :: cs => by rw [List.flatMap_cons]; exact noRefs_app (vkey_noRef c) (vkeys_noRef cs)
/-- row_key of a row -/
theorem row_key_run (n : Nat) (h : Hb) (x : D) (J : It) (cs : List D) (hx : ∀ G, evI (FN (n + 1)) (.val (.var 0)) [some x, some (.ref h.length), none] (h ++ G) = some (.ok J (h ++ G))) (hz : ∀ G, J.size (h ++ G) = cs.length) (hat : ∀ G i, J.at (h ++ G) i = some cs[i]?) (hc : ∀ d ∈ cs, cell d = true) (hl : cs.length ≤ 8) :
    (FN (n + 2)).run Str.empty "row_key" [x] h = some (.ok (.tup (cs.flatMap vkey)) h) := by
  rw [run_of k_row_key]
  have e1 : evS (FN (n + 1)) pg.above WF (.asg (.tg (.nm 1)) (.lst .nil)) [some x, none, none] h = some (.nx [some x, some (.ref h.length), none] (h ++ [.lst []])) := by
    rw [qS_asg_tg, qE_lst, qL_nil, bnd_ok, if_pos (by simp)]; rfl
  obtain ⟨ρ', h', e2, ⟨v, rfl⟩, rfl⟩ := fors_fold (F := FN (n + 1)) (U := pg.above) (Wf := WF) (J := J) (g := .nm 2) (it := .val (.var 0)) (b := (.cons (.expr (.bm .extend (.var 1) (.cons (.call "value_key" (.cons (.var 2) .nil)) .nil))) .nil)) (ds := cs)
    (I := fun s ρ H => (∃ v, ρ = [some x, some (.ref h.length), v]) ∧ H = h ++ [.lst (s.flatMap vkey)]) (h := h ++ [.lst []]) (hx _) (hz _) ⟨⟨_, rfl⟩, rfl⟩ (fun s ρ H i k => by rw [i.2]; exact hat _ k)
    (fun s ρ H c i ht => by
      obtain ⟨⟨v, rfl⟩, rfl⟩ := i
      obtain ⟨t, ht⟩ := ht
      have hin : c ∈ cs := by rw [ht]; simp
      have e := ev_extend (F := FN (n + 1)) (U := pg.above) (Wf := WF) (ρ := [some x, some (.ref h.length), some c]) (h := h ++ [.lst (s.flatMap vkey)]) (x := 1) (e := .call "value_key" (.cons (.var 2) .nil)) (ys := vkey c) (xs := s.flatMap vkey) rfl (by simp [items])
        (by rw [qE_call, evL1 (ev_var (d := c) rfl), bnd_ok]; exact value_key n c (hc c hin) _) (by rw [at_new0]; rfl) (by
          have h1 := vkey_all s
          have h2 := vkey_len c
          have h3 := congrArg List.length ht
          simp only [List.length_append, List.length_cons] at h3
          rw [sizeLine_eq']; omega)
      refine ⟨[some x, some (.ref h.length), some c], [some x, some (.ref h.length), some c], h ++ [.lst ((s ++ [c]).flatMap vkey)], rfl, ?_, ⟨_, rfl⟩, rfl⟩
      rw [qSs_cons, e, set_new]
      simp only [qSs_nil, List.flatMap_append, List.flatMap_cons, List.flatMap_nil, List.append_nil])
  have e3 : evSs (FN (n + 1)) pg.above WF f_row_key.body (startEn f_row_key [x]) h = some (.ret (.tup (cs.flatMap vkey)) (h ++ [.lst (cs.flatMap vkey)])) :=
    (ss_nx e1).trans ((ss_nx e2).trans (ret_ev (by
      rw [qE_blt, evL1 (ev_var (d := .ref h.length) rfl), bnd_ok]
      simp [bltD, items, nvRes])))
  rw [run_ret (d := f_row_key) rfl e3]
  exact congrArg some (gc_ext h _ _ (vkeys_noRef cs))
end Pl

set_option Elab.async false
set_option linter.all false
set_option maxRecDepth 100000
set_option autoImplicit false
set_option maxHeartbeats 0
/-! Pl28: without_repeats. -/
namespace Pl
open PySem Ev PK Qe
theorem k_without : keys.lookup (Str.empty, ("without_repeats" : Str)) = some f_without_repeats := by rfl
def ckey : D → List L2.Key
  | .non => [Sum.inl 0]
  | .int i => [Sum.inl 2, Sum.inl i]
  | .str s => [Sum.inl 3, Sum.inr s]
  | _ => []
def rkey : D → List L2.Key
  | .tup cs => cs.flatMap ckey
  | _ => []
/-- the first one of each -/
def nub (rs : List D) : List D := rs.foldl (fun acc r => if r ∈ acc then acc else acc ++ [r]) []
theorem snocI {α : Type} {P : List α → Prop} (h0 : P []) (h1 : ∀ s d, P s → P (s ++ [d])) (l : List α) : P l := by
  have : ∀ m : List α, P m.reverse := fun m => by
    induction m with
    | nil => exact h0
    | cons a m ih => rw [List.reverse_cons]; exact h1 _ _ ih
  have := this l.reverse
  rwa [List.reverse_reverse] at this
theorem nub_snoc (s : List D) (d : D) : nub (s ++ [d]) = if d ∈ nub s then nub s else nub s ++ [d] := by
  unfold nub
  rw [List.foldl_append]
  rfl
theorem cell_of {d : D} (h : cellOk d = true) : cell d = true := by cases d <;> simp [cellOk] at h <;> rfl
theorem row_inv {d : D} (h : rowOk d = true) : ∃ cs, d = .tup cs ∧ (∀ c ∈ cs, cell c = true) ∧ cs.length ≤ 8 ∧ (∀ c ∈ cs, cellOk c = true) := by
  cases d with
  | tup cs =>
    simp only [rowOk, Bool.and_eq_true, List.all_eq_true, decide_eq_true_eq] at h
    exact ⟨cs, rfl, fun c hc => cell_of (h.1 c hc), h.2, h.1⟩
  | _ => simp [rowOk] at h
theorem keysOf_app : ∀ {as bs : List D} {ks ls : List L2.Key}, keysOf as = some ks → keysOf bs = some ls → keysOf (as ++ bs) = some (ks ++ ls)
  | [], _, _, _, h, h' => by simp [keysOf] at h; subst h; simpa using h'
  | a :: as, bs, ks, ls, h, h' => by
    simp only [keysOf] at h
    cases ha : keyOf a with
    | none => simp [ha] at h
    | some k =>
      cases hs : keysOf as with
      | none => simp [ha, hs] at h
      | some l =>
        simp [ha, hs] at h
        subst h
        simp only [List.cons_append, keysOf, ha, keysOf_app hs h']
theorem keysOf_cells : ∀ {cs : List D}, (∀ c ∈ cs, cell c = true) → keysOf (cs.flatMap vkey) = some (cs.flatMap ckey)
  | [], _ => rfl
  | c :: cs, h => by
    simp only [List.flatMap_cons]
    refine keysOf_app ?_ (keysOf_cells fun d hd => h d (by simp [hd]))
    have := h c (by simp)
    cases c <;> simp [cell] at this <;> rfl
theorem ckey_inj : ∀ {as bs : List D}, (∀ c ∈ as, cell c = true) → (∀ c ∈ bs, cell c = true) → as.flatMap ckey = bs.flatMap ckey → as = bs
  | [], [], _, _, _ => rfl
  | [], b :: bs, _, hb, e => by
    have := hb b (by simp)
    cases b <;> simp [cell] at this <;> simp [ckey] at e
  | a :: as, [], ha, _, e => by
    have := ha a (by simp)
    cases a <;> simp [cell] at this <;> simp [ckey] at e
  | a :: as, b :: bs, ha, hb, e => by
    have h1 := ha a (by simp)
    have h2 := hb b (by simp)
    have ih := ckey_inj (as := as) (bs := bs) (fun d hd => ha d (by simp [hd])) (fun d hd => hb d (by simp [hd]))
    cases a <;> simp [cell] at h1 <;> cases b <;> simp [cell] at h2 <;> simp [ckey] at e
    · rw [ih e]
    · rw [e.1, ih e.2]
    · rw [e.1, ih e.2]
theorem rkey_inj {a b : D} (ha : rowOk a = true) (hb : rowOk b = true) (e : rkey a = rkey b) : a = b := by
  obtain ⟨as, rfl, h1, -, -⟩ := row_inv ha
  obtain ⟨bs, rfl, h2, -, -⟩ := row_inv hb
  rw [ckey_inj h1 h2 e]
theorem getV_rows {d : D} (hd : rowOk d = true) : ∀ {l : List D}, (∀ r ∈ l, rowOk r = true) → getV (l.map fun r => (rkey r, r)) (rkey d) = if d ∈ l then some d else none
  | [], _ => rfl
  | r :: l, h => by
    have ih := getV_rows hd (l := l) fun x hx => h x (by simp [hx])
    simp only [getV, List.map_cons, List.find?_cons] at ih ⊢
    by_cases e : rkey r = rkey d
    · have := rkey_inj (h r (by simp)) hd e
      subst this
      simp
    · have ne : ¬ d = r := fun k => e (by rw [k])
      simp only [e, decide_false, ih, List.mem_cons, ne, false_or]
theorem nub_mem {s : List D} {r : D} : r ∈ nub s ↔ r ∈ s := by
  induction s using snocI with
  | h0 => simp [nub]
  | h1 s d ih =>
    rw [nub_snoc]
    by_cases h : d ∈ nub s
    · rw [if_pos h, List.mem_append, List.mem_singleton]
      refine ⟨fun k => .inl (ih.mp k), fun k => k.elim ih.mpr fun e => ?_⟩
      rw [e]; exact h
    · rw [if_neg h, List.mem_append, List.mem_append, ih]
theorem nub_len (s : List D) : (nub s).length ≤ s.length := by
  induction s using snocI with
  | h0 => simp [nub]
  | h1 s d ih =>
    rw [nub_snoc]
    by_cases h : d ∈ nub s
    · rw [if_pos h, List.length_append]; omega
    · rw [if_neg h, List.length_append, List.length_append]; simp; omega
theorem row_key_tup (n : Nat) (h : Hb) {d : D} (hd : rowOk d = true) : ∃ cs, (∀ c ∈ cs, cell c = true) ∧ d = .tup cs ∧ (FN (n + 2)).run Str.empty "row_key" [d] h = some (.ok (.tup (cs.flatMap vkey)) h) := by
  obtain ⟨cs, rfl, hc, hl, -⟩ := row_inv hd
  exact ⟨cs, hc, rfl, row_key_run n h _ (.tup cs) cs (fun G => by rw [qI_val, ev_var (d := .tup cs) rfl]; rfl) (fun G => rfl) (fun G i => rfl) hc hl⟩
theorem ev_setd {F : Fn} {U : Above} {Wf : Nat} {ρ : En} {h : Hb} {x n : Nat} {e e2 : Ex} {ks : List D} {k : List L2.Key} {d : D} {kvs : List (List L2.Key × D)} (hx : getVar ρ x = some (.ref n)) (hn : h[n]? = some (.dt kvs)) (he : evE F e ρ h = some (.ok (.tup ks) h)) (hk : keysOf ks = some k) (he2 : evE F e2 ρ h = some (.ok d h)) (hl : kvs.length < sizeLine) :
    evS F U Wf (.expr (.bm .setd (.var x) (.cons e (.cons e2 .nil)))) ρ h = some (.nx ρ (match getV kvs k with
      | some _ => h
      | none => h.set n (.dt (kvs ++ [(k, d)])))) := by
  rw [qS_expr, qE_bm, ev_var hx, bnd_ok]
  simp only [bmT, hn, if_true]
  rw [evL2 he he2, bnd_ok]
  simp only [bmD, hn, hk, if_pos hl]
  cases getV kvs k <;> rfl
theorem set_same {h : Hb} {n : Nat} {o : Ob} (e : h[n]? = some o) : h.set n o = h := by
  obtain ⟨lt, e⟩ := List.getElem?_eq_some_iff.mp e
  rw [← e]; exact List.set_getElem_self lt
theorem without_run (n : Nat) (h : Hb) (m : Nat) (rs : List D) (hm : h[m]? = some (.lst rs)) (hr : ∀ d ∈ rs, rowOk d = true) (hl : rs.length < sizeLine) :
    (FN (n + 3)).run Str.empty "without_repeats" [.ref m] h = some (.ok (.ref h.length) (h ++ [.lst (nub rs)])) := by
  rw [run_of k_without]
  have e1 : evS (FN (n + 2)) pg.above WF (.asg (.tg (.nm 1)) .dnewT) [some (.ref m), none, none] h = some (.nx [some (.ref m), some (.ref h.length), none] (h ++ [.dt []])) := by
    rw [qS_asg_tg, qE_dnewT]; rfl
  obtain ⟨ρ', h', e2, ⟨v, rfl⟩, rfl⟩ := fors_fold (F := FN (n + 2)) (U := pg.above) (Wf := WF) (J := .lst m) (g := .nm 2) (it := .val (.var 0)) (b := (.cons (.expr (.bm .setd (.var 1) (.cons (.call "row_key" (.cons (.var 2) .nil)) (.cons (.var 2) .nil)))) .nil)) (ds := rs)
    (I := fun s ρ H => (∃ v, ρ = [some (.ref m), some (.ref h.length), v]) ∧ H = h ++ [.dt ((nub s).map fun r => (rkey r, r))]) (ρ := [some (.ref m), some (.ref h.length), none]) (h := h ++ [.dt []])
    (by rw [qI_val, ev_var (d := .ref m) rfl]; simp only [bnd_ok, items_of (at_old hm)]; rfl) (size_lst (at_old hm)) ⟨⟨_, rfl⟩, rfl⟩ (fun s ρ H i k => by rw [i.2]; exact at_lst (at_old hm) k)
    (fun s ρ H d i ht => by
      obtain ⟨⟨v, rfl⟩, rfl⟩ := i
      obtain ⟨t, ht⟩ := ht
      have hin : d ∈ rs := by rw [ht]; simp
      have hs : ∀ x ∈ nub s, rowOk x = true := fun x hx => hr x (by rw [ht]; simp [nub_mem.mp hx])
      obtain ⟨cs, hc, rfl, rk⟩ := row_key_tup n (h ++ [.dt ((nub s).map fun r => (rkey r, r))]) (hr d hin)
      have len := nub_len s
      have len2 := congrArg List.length ht
      simp only [List.length_append] at len2
      have e := ev_setd (F := FN (n + 2)) (U := pg.above) (Wf := WF) (ρ := [some (.ref m), some (.ref h.length), some (.tup cs)]) (h := h ++ [.dt ((nub s).map fun r => (rkey r, r))]) (x := 1) (n := h.length) (e := .call "row_key" (.cons (.var 2) .nil)) (e2 := .var 2) (ks := cs.flatMap vkey) (k := rkey (.tup cs)) (d := .tup cs) rfl (by rw [at_new0]; rfl)
        (by rw [qE_call, evL1 (ev_var (d := .tup cs) rfl), bnd_ok]; exact rk) (keysOf_cells hc) (ev_var rfl) (by rw [List.length_map]; omega)
      refine ⟨[some (.ref m), some (.ref h.length), some (.tup cs)], [some (.ref m), some (.ref h.length), some (.tup cs)], h ++ [.dt ((nub (s ++ [.tup cs])).map fun r => (rkey r, r))], rfl, ?_, ⟨_, rfl⟩, rfl⟩
      rw [qSs_cons, e, getV_rows (hr _ hin) hs, nub_snoc]
      by_cases hd : D.tup cs ∈ nub s
      · simp only [if_pos hd, qSs_nil]
      · simp only [if_neg hd, qSs_nil, set_new, List.map_append, List.map_cons, List.map_nil])
  have e3 : evSs (FN (n + 2)) pg.above WF f_without_repeats.body (startEn f_without_repeats [.ref m]) h = some (.ret (.ref (h.length + 1)) (h ++ [.dt ((nub rs).map fun r => (rkey r, r)), .lst (nub rs)])) :=
    (ss_nx e1).trans ((ss_nx e2).trans (ret_ev (by
      rw [qE_lvals, show getVar [some (D.ref m), some (.ref h.length), v] 1 = some (.ref h.length) from rfl]
      simp [Ev.newList, List.map_map, Function.comp_def])))
  rw [run_ret (d := f_without_repeats) rfl e3]
  exact congrArg some (gc_list h [.dt ((nub rs).map fun r => (rkey r, r)), .lst (nub rs)] 1 (nub rs) rfl (noRefs_of fun d hd => by
    obtain ⟨cs, rfl, hc, -, -⟩ := row_inv (hr d (nub_mem.mp hd))
    exact noRefs_of fun c h' => by have := hc c h'; cases c <;> simp [cell] at this <;> rfl))
end Pl

set_option Elab.async false
set_option linter.all false
set_option maxRecDepth 100000
set_option autoImplicit false
set_option maxHeartbeats 0
/-! Pl29: what the drawn plans come to: distinct. -/
namespace Pl
open PySem Ev PK Qe
theorem row_noRef {d : D} (h : rowOk d = true) : noRef d = true := by
  obtain ⟨cs, rfl, hc, -, -⟩ := row_inv h
  exact noRefs_of fun c h' => by have := hc c h'; cases c <;> simp [cell] at this <;> rfl
theorem rowsOk_noRefs {rs : List D} (h : ∀ d ∈ rs, rowOk d = true) : noRef.noRefs rs = true := noRefs_of fun d hd => row_noRef (h d hd)
theorem made_distinct (n : Nat) (h : Hb) (r m m1 : Nat) (rest : List D) (rows : List D) (hm : h[m]? = some (.lst [.ref m1])) (h1 : h[m1]? = some (.lst rows)) (hr : ∀ d ∈ rows, rowOk d = true) (hl : rows.length < sizeLine) :
    (FN (n + 4)).run "Runner" "made" [.ref r, .tup (.str "distinct" :: rest), .ref m] h = some (.ok (.ref h.length) (h ++ [.lst (nub rows)])) := by
  rw [run_of k_made]
  have ev : evE (FN (n + 3)) (.call "without_repeats" (.cons (.idx (.var 2) (.int 0)) .nil)) [some (.ref r), some (.tup (.str "distinct" :: rest)), some (.ref m), none, none] h = some (.ok (.ref h.length) (h ++ [.lst (nub rows)])) := by
    rw [qE_call, evL1 (ev_idx (e := .ref m1) (d := .ref m) rfl (by simp [idxD, hm, ix_0])), bnd_ok]
    exact without_run n h m1 rows h1 hr hl
  have e3 : evSs (FN (n + 3)) pg.above WF m_Runner_made.body (startEn m_Runner_made [.ref r, .tup (.str "distinct" :: rest), .ref m]) h = _ :=
    (skip (wordF rfl (by decide))).trans ((skip (wordF rfl (by decide))).trans ((skip (wordF rfl (by decide))).trans ((skip (wordF rfl (by decide))).trans (hit (wordT rfl) (ret_ev ev)))))
  rw [run_ret (d := m_Runner_made) rfl e3]
  exact congrArg some (gc_list0 h _)
theorem Below.cast {k j : Nat} {plan : D} {ps : List D} (a : Below k plan ps) (e : k = j) : Below j plan ps := e ▸ a
/-- rows that are data, within the bound -/
def Good (o : Option (List D)) : Prop := ∀ A, o = some A → (∀ d ∈ A, rowOk d = true) ∧ A.length ≤ 2000
def distP (p : D) : D := .tup [.str "distinct", p]
theorem out_distinct {Inv : Hb → Prop} {r S W k : Nat} {w : Str} {xs : List D} {o : Option (List D)} (wd : Wd Inv r S W) (hw : planP (.tup (.str w :: xs)) = true) (nr : noRef.noRefs xs = true) (g : Good o) (ho : Out Inv r k (.tup (.str w :: xs)) o) :
    Out Inv r (k + 5) (distP (.tup (.str w :: xs))) (o.map nub) := by
  have hb : Below 2 (distP (.tup (.str w :: xs))) [.tup (.str w :: xs)] := below_of _ _ _ (fun h => slc_of (by rfl)) (by simp) (fun h d hd => by
    simp at hd; subst hd
    exact part_word h _ _) (by simp only [List.filter, hw]) (by simp [noRef.noRefs, noRef, nr])
  cases o with
  | none => exact out1x wd ((hb.up (k + 2)).cast (by omega)) (ho.up 4)
  | some A =>
    have gA := g A rfl
    have := out1 (rows := nub A) wd ((hb.up (k + 2)).cast (by omega)) (ho.up 4) (rowsOk_noRefs fun d hd => gA.1 d (nub_mem.mp hd)) fun n h m m1 i hm h1 => made_distinct (n + k) h r m m1 _ A hm h1 gA.1 (by rw [sizeLine_eq']; omega)
    rw [lim_ok (Nat.le_trans (nub_len A) gA.2)] at this
    exact this
end Pl

set_option Elab.async false
set_option linter.all false
set_option maxRecDepth 100000
set_option autoImplicit false
set_option maxHeartbeats 0
/-! Pl30: plain steps: outer. -/
namespace Pl
open PySem Ev PK Qe
theorem k_width : keys.lookup (Str.empty, ("width" : Str)) = some f_width := by rfl
theorem k_outer : keys.lookup (("Runner" : Str), ("outer" : Str)) = some m_Runner_outer := by rfl
theorem has_outer : pg.hasM "Runner" "outer" = true := by decide +kernel
theorem width_scan (n : Nat) (h : Hb) (S s c : Nat) (nm : Str) (rest : List D) (kvs : List (L2.Key × D)) (cl : Str) (fs : List (Str × D)) (cs : List D) (hS : h[S]? = some (.dk kvs)) (hk : getK kvs (Sum.inr nm) = some (.ref s)) (hs : h[s]? = some (.ins cl fs)) (hf : fs.lookup ("columns" : Str) = some (D.ref c)) (hc : h[c]? = some (.lst cs)) :
    (FN (n + 1)).run Str.empty "width" [.tup (.str "scan" :: .str nm :: rest), .ref S] h = some (.ok (.int cs.length) h) := by
  rw [run_of k_width]
  have ev : evE (FN n) (.blt .len (.cons (.fld (.idx (.var 1) (.idx (.var 0) (.int 1))) "columns") .nil)) [some (.tup (.str "scan" :: .str nm :: rest)), some (.ref S), none] h = some (.ok (.int cs.length) h) := by
    have e1 : evE (FN n) (.idx (.var 1) (.idx (.var 0) (.int 1))) [some (.tup (.str "scan" :: .str nm :: rest)), some (.ref S), none] h = some (.ok (.ref s) h) := by
      rw [qE_idx, ev_var (d := .ref S) rfl, bnd_ok, ev_idx (e := .str nm) (d := .tup (.str "scan" :: .str nm :: rest)) rfl (by simp [idxD, ix_1]), bnd_ok]
      simp only [idxD, hS, hk]
    have e2 : evE (FN n) (.fld (.idx (.var 1) (.idx (.var 0) (.int 1))) "columns") [some (.tup (.str "scan" :: .str nm :: rest)), some (.ref S), none] h = some (.ok (.ref c) h) := by
      rw [qE_fld, e1]; simp only [bnd_ok, hs, hf]
    rw [qE_blt, evL1 e2]
    simp only [bnd_ok, bltD, items, hc, Option.map, nvRes]
  have e3 : evSs (FN n) pg.above WF f_width.body (startEn f_width [.tup (.str "scan" :: .str nm :: rest), .ref S]) h = _ := hit (wordT rfl) (ret_ev ev)
  rw [run_ret (d := f_width) rfl e3]
  exact congrArg some (gc_same h _)
def nn : D := .tup [.non, .non]
def outR (bs : List D) (P : D → D → Bool) (p : D) : List D := if (bs.filter (P p)).isEmpty then [addT p nn] else (bs.filter (P p)).map (addT p)
def outersP (as bs : List D) (P : D → D → Bool) : List D := as.flatMap (outR bs P)
theorem ev_neNil {F : Fn} {ρ : En} {H : Hb} {x m : Nat} {rs : List D} (hx : getVar ρ x = some (.ref m)) (hm : H[m]? = some (.lst rs)) (hr : ∀ d ∈ rs, rowOk d = true) : evT F (.cmp .NotEq (.var x) (.lst .nil)) ρ H = some (.ok (!rs.isEmpty) (H ++ [Ob.lst []])) := by
  rw [qT_cmp, ev_var hx, bnd_ok, qE_lst, qL_nil, bnd_ok, if_pos (by simp)]
  simp only [Ev.newList, bnd_ok, cmpD, eq_nil (at_old hm) (show (H ++ [Ob.lst []])[H.length]? = some (Ob.lst []) by rw [at_new0]; rfl) hr, Option.map]
theorem ev_eqNil {F : Fn} {ρ : En} {H : Hb} {x m : Nat} {rs : List D} (hx : getVar ρ x = some (.ref m)) (hm : H[m]? = some (.lst rs)) (hr : ∀ d ∈ rs, rowOk d = true) : evT F (.cmp .Eq (.var x) (.lst .nil)) ρ H = some (.ok rs.isEmpty (H ++ [Ob.lst []])) := by
  rw [qT_cmp, ev_var hx, bnd_ok, qE_lst, qL_nil, bnd_ok, if_pos (by simp)]
  simp only [Ev.newList, bnd_ok, cmpD, eq_nil (at_old hm) (show (H ++ [Ob.lst []])[H.length]? = some (Ob.lst []) by rw [at_new0]; rfl) hr]
/-- Runner.outer -/
theorem outer_run (n : Nat) (h : Hb) (r m1 m2 S W : Nat) (c pa pb : D) (as bs : List D) (P : D → D → Bool) (er : h[r]? = some (rnr S W)) (h1 : h[m1]? = some (.lst as)) (h2 : h[m2]? = some (.lst bs)) (ta : ∀ d ∈ as, isTup d = true) (tb : ∀ d ∈ bs, isTup d = true)
    (hw : ∀ G, (FN (n + 1)).run Str.empty "width" [pb, .ref S] (h ++ G) = some (.ok (.int 2) (h ++ G)))
    (hc : ∀ p ∈ as, ∀ q ∈ bs, ∀ H : Hb, H[r]? = some (rnr S W) → (FN (n + 1)).run "Runner" "holds" [.ref r, c, addT p q] H = some (.ok (.bl (P p q)) H)) (ro : ∀ p ∈ as, ∀ q ∈ bs, rowOk (addT p q) = true) (nr : noRef.noRefs (outersP as bs P) = true) (hs : (outersP as bs P).length ≤ sizeLine) :
    (FN (n + 2)).run "Runner" "outer" [.ref r, .tup [.str "outer", c, pa, pb], .ref m1, .ref m2] h = some (.ok (.ref h.length) (h ++ [Ob.lst (outersP as bs P)])) := by
  rw [run_of k_outer]
  have e1 : evS (FN (n + 1)) pg.above WF (.asg (.tg (.nm 4)) (.lst .nil)) [some (.ref r), some (.tup [.str "outer", c, pa, pb]), some (.ref m1), some (.ref m2), none, none, none, none, none, none] h = some (.nx [some (.ref r), some (.tup [.str "outer", c, pa, pb]), some (.ref m1), some (.ref m2), some (.ref h.length), none, none, none, none, none] (h ++ [Ob.lst []])) := by
    rw [qS_asg_tg, qE_lst, qL_nil, bnd_ok, if_pos (by simp)]; rfl
  have ew : evE (FN (n + 1)) (.call "width" (.cons (.idx (.var 1) (.int 3)) (.cons (.fld (.var 0) "sources") .nil))) [some (.ref r), some (.tup [.str "outer", c, pa, pb]), some (.ref m1), some (.ref m2), some (.ref h.length), none, none, none, none, none] (h ++ [Ob.lst []]) = some (.ok (.int 2) (h ++ [Ob.lst []])) := by
    rw [qE_call, evL2 (d := pb) (e := .ref S) (ev_idx (d := .tup [.str "outer", c, pa, pb]) rfl (by simp [idxD, ix_3])) (by
      rw [qE_fld, ev_var (d := .ref r) rfl]; simp only [bnd_ok, at_old er, rnr]; rfl), bnd_ok]
    exact hw _
  have e2 : evS (FN (n + 1)) pg.above WF (.asg (.tg (.nm 5)) (.blt .tuple (.cons (.comp true (.nm 8) (.rng1 (.call "width" (.cons (.idx (.var 1) (.int 3)) (.cons (.fld (.var 0) "sources") .nil)))) .yes .non) .nil))) [some (.ref r), some (.tup [.str "outer", c, pa, pb]), some (.ref m1), some (.ref m2), some (.ref h.length), none, none, none, none, none] (h ++ [Ob.lst []])
      = some (.nx [some (.ref r), some (.tup [.str "outer", c, pa, pb]), some (.ref m1), some (.ref m2), some (.ref h.length), some nn, none, none, none, none] (h ++ [Ob.lst [], Ob.lst [.non, .non]])) := by
    rw [qS_asg_tg, qE_blt, qL_cons, qE_comp, qI_rng1, ew]
    simp [bnd_ok, fits62, It.at, It.size, compLoop, bindTg, setVar, Tg.slots, Ev.wipe, qT_yes, qE_non, okX, sizeLine_eq', Ev.newList, qL_nil, bltD, items, nvRes, sB_ok, nn]
  obtain ⟨ρ', h', e3, ⟨v, w, rfl⟩, G, rfl⟩ := fors_fold (F := FN (n + 1)) (U := pg.above) (Wf := WF) (J := .lst m1) (g := .nm 6) (it := .val (.var 2)) (b := (.cons (.asg (.tg (.nm 7)) (.comp true (.nm 9) (.val (.var 3)) (.ex (.meth (.var 0) "holds" (.cons (.idx (.var 1) (.int 1)) (.cons (.bin .Add (.var 6) (.var 9)) .nil)))) (.bin .Add (.var 6) (.var 9))))
 (.cons (.expr (.bm .extend (.var 4) (.cons (.ite (.cmp .NotEq (.var 7) (.lst .nil)) (.var 7) (.lst (.cons (.bin .Add (.var 6) (.var 5)) .nil))) .nil)))
 .nil))) (ds := as)
    (I := fun s ρ H => (∃ v w, ρ = [some (.ref r), some (.tup [.str "outer", c, pa, pb]), some (.ref m1), some (.ref m2), some (.ref h.length), some nn, v, w, none, none]) ∧ ∃ G, H = h ++ Ob.lst (outersP s bs P) :: G)
    (ρ := [some (.ref r), some (.tup [.str "outer", c, pa, pb]), some (.ref m1), some (.ref m2), some (.ref h.length), some nn, none, none, none, none]) (h := h ++ [Ob.lst [], Ob.lst [.non, .non]])
    (by rw [qI_val, ev_var (d := .ref m1) rfl]; simp only [bnd_ok, items_of (at_old h1)]; rfl) (size_lst (at_old h1)) ⟨⟨_, _, rfl⟩, _, rfl⟩ (fun s ρ H i k => by obtain ⟨-, G, rfl⟩ := i; exact at_lst (at_old h1) k)
    (fun s ρ H d i ht => by
      obtain ⟨⟨v, w, rfl⟩, G, rfl⟩ := i
      obtain ⟨t, ht⟩ := ht
      have hin : d ∈ as := by rw [ht]; simp
      have len := congrArg (fun z => (outersP z bs P).length) ht
      simp only [outersP, List.flatMap_append, List.flatMap_cons, List.length_append] at len
      simp only [outersP] at hs
      have rr : ∀ x ∈ (bs.filter (P d)).map (addT d), rowOk x = true := fun x hx => by
        obtain ⟨q, hq, rfl⟩ := List.mem_map.mp hx
        exact ro d hin q (List.mem_filter.mp hq).1
      have b1 := ev_comp (F := FN (n + 1)) (ρ := [some (.ref r), some (.tup [.str "outer", c, pa, pb]), some (.ref m1), some (.ref m2), some (.ref h.length), some nn, some d, w, none, none]) (h := h ++ Ob.lst (outersP s bs P) :: G) (x := true) (g := 9) (it := .var 3) (e := .bin .Add (.var 6) (.var 9)) (c := .ex (.meth (.var 0) "holds" (.cons (.idx (.var 1) (.int 1)) (.cons (.bin .Add (.var 6) (.var 9)) .nil)))) (m := m2) (ds := bs) (P := P d) (f := addT d)
        (ev_var rfl) (at_old h2) (fun q hq => ⟨pair_test rfl rfl rfl rfl (at_old er) (by intro fs e; cases e; rfl) has_holds (ta d hin) (tb q hq) (hc d hin q hq _ (at_old er)), fun _ => ev_add rfl rfl (ta d hin) (tb q hq)⟩) (by
          have := List.length_filter_le (P d) bs
          by_cases z : (bs.filter (P d)).isEmpty
          · rw [List.isEmpty_iff.mp z]; simp
          · have : outR bs P d = (bs.filter (P d)).map (addT d) := by unfold outR; rw [if_neg z]
            rw [this, List.length_map] at len
            omega)
      have b2 : evS (FN (n + 1)) pg.above WF (.asg (.tg (.nm 7)) (.comp true (.nm 9) (.val (.var 3)) (.ex (.meth (.var 0) "holds" (.cons (.idx (.var 1) (.int 1)) (.cons (.bin .Add (.var 6) (.var 9)) .nil)))) (.bin .Add (.var 6) (.var 9)))) [some (.ref r), some (.tup [.str "outer", c, pa, pb]), some (.ref m1), some (.ref m2), some (.ref h.length), some nn, some d, w, none, none] (h ++ Ob.lst (outersP s bs P) :: G)
          = some (.nx [some (.ref r), some (.tup [.str "outer", c, pa, pb]), some (.ref m1), some (.ref m2), some (.ref h.length), some nn, some d, some (.ref (h ++ Ob.lst (outersP s bs P) :: G).length), none, none] ((h ++ Ob.lst (outersP s bs P) :: G) ++ [Ob.lst ((bs.filter (P d)).map (addT d))])) := by
        rw [qS_asg_tg, b1]; rfl
      have hm : ((h ++ Ob.lst (outersP s bs P) :: G) ++ [Ob.lst ((bs.filter (P d)).map (addT d))])[(h ++ Ob.lst (outersP s bs P) :: G).length]? = some (Ob.lst ((bs.filter (P d)).map (addT d))) := by rw [at_new0]; rfl
      have ne := ev_neNil (F := FN (n + 1)) (ρ := [some (.ref r), some (.tup [.str "outer", c, pa, pb]), some (.ref m1), some (.ref m2), some (.ref h.length), some nn, some d, some (.ref (h ++ Ob.lst (outersP s bs P) :: G).length), none, none]) (x := 7) rfl hm rr
      have fin : ∃ G', evS (FN (n + 1)) pg.above WF (.expr (.bm .extend (.var 4) (.cons (.ite (.cmp .NotEq (.var 7) (.lst .nil)) (.var 7) (.lst (.cons (.bin .Add (.var 6) (.var 5)) .nil))) .nil))) [some (.ref r), some (.tup [.str "outer", c, pa, pb]), some (.ref m1), some (.ref m2), some (.ref h.length), some nn, some d, some (.ref (h ++ Ob.lst (outersP s bs P) :: G).length), none, none] ((h ++ Ob.lst (outersP s bs P) :: G) ++ [Ob.lst ((bs.filter (P d)).map (addT d))])
          = some (.nx [some (.ref r), some (.tup [.str "outer", c, pa, pb]), some (.ref m1), some (.ref m2), some (.ref h.length), some nn, some d, some (.ref (h ++ Ob.lst (outersP s bs P) :: G).length), none, none] (h ++ Ob.lst (outersP (s ++ [d]) bs P) :: G')) := by
        by_cases z : (bs.filter (P d)).isEmpty
        · have zr : outR bs P d = [addT d nn] := by unfold outR; rw [if_pos z]
          have zm : ((bs.filter (P d)).map (addT d)).isEmpty = true := by simpa using z
          rw [zm] at ne
          refine ⟨G ++ [Ob.lst ((bs.filter (P d)).map (addT d)), Ob.lst [], Ob.lst [addT d nn]], ?_⟩
          have ea : evE (FN (n + 1)) (.ite (.cmp .NotEq (.var 7) (.lst .nil)) (.var 7) (.lst (.cons (.bin .Add (.var 6) (.var 5)) .nil))) [some (.ref r), some (.tup [.str "outer", c, pa, pb]), some (.ref m1), some (.ref m2), some (.ref h.length), some nn, some d, some (.ref (h ++ Ob.lst (outersP s bs P) :: G).length), none, none] ((h ++ Ob.lst (outersP s bs P) :: G) ++ [Ob.lst ((bs.filter (P d)).map (addT d))])
              = some (.ok (.ref (((h ++ Ob.lst (outersP s bs P) :: G) ++ [Ob.lst ((bs.filter (P d)).map (addT d))]) ++ [Ob.lst []]).length) ((((h ++ Ob.lst (outersP s bs P) :: G) ++ [Ob.lst ((bs.filter (P d)).map (addT d))]) ++ [Ob.lst []]) ++ [Ob.lst [addT d nn]])) := by
            rw [qE_ite, ne, bnd_ok]
            show evE _ _ _ _ = _
            rw [qE_lst, evL1 (ev_add (p := d) (q := nn) rfl rfl (ta d hin) rfl), bnd_ok, if_pos (by simp [sizeLine_eq'])]
            try rfl
          rw [ev_extendL (x := 4) (n := h.length) (xs := outersP s bs P) (ys := [addT d nn]) rfl (by rw [List.append_assoc]; simp [items]) ea (at_last _ _) (by simp) (by simp only [List.append_assoc, List.cons_append]; exact at_newc _ _ _) (by rw [zr] at len; simp only [outersP]; simp only [List.length_cons, List.length_nil] at len ⊢; omega)]
          simp only [List.append_assoc, List.cons_append, List.nil_append, set_new]
          simp only [outersP, List.flatMap_append, List.flatMap_cons, List.flatMap_nil, List.append_nil, zr]
        · have zr : outR bs P d = (bs.filter (P d)).map (addT d) := by unfold outR; rw [if_neg z]
          have zm : ((bs.filter (P d)).map (addT d)).isEmpty = false := by simpa using z
          rw [zm] at ne
          refine ⟨G ++ [Ob.lst ((bs.filter (P d)).map (addT d)), Ob.lst []], ?_⟩
          have ea : evE (FN (n + 1)) (.ite (.cmp .NotEq (.var 7) (.lst .nil)) (.var 7) (.lst (.cons (.bin .Add (.var 6) (.var 5)) .nil))) [some (.ref r), some (.tup [.str "outer", c, pa, pb]), some (.ref m1), some (.ref m2), some (.ref h.length), some nn, some d, some (.ref (h ++ Ob.lst (outersP s bs P) :: G).length), none, none] ((h ++ Ob.lst (outersP s bs P) :: G) ++ [Ob.lst ((bs.filter (P d)).map (addT d))])
              = some (.ok (.ref (h ++ Ob.lst (outersP s bs P) :: G).length) (((h ++ Ob.lst (outersP s bs P) :: G) ++ [Ob.lst ((bs.filter (P d)).map (addT d))]) ++ [Ob.lst []])) := by
            rw [qE_ite, ne, bnd_ok]
            exact ev_var rfl
          rw [ev_extendL (x := 4) (n := h.length) (xs := outersP s bs P) (ys := (bs.filter (P d)).map (addT d)) rfl (by rw [List.append_assoc]; simp [items]) ea (at_old hm) (by simp) (by simp only [List.append_assoc, List.cons_append]; exact at_newc _ _ _) (by rw [zr] at len; simp only [outersP]; omega)]
          simp only [List.append_assoc, List.cons_append, List.nil_append, set_new]
          simp only [outersP, List.flatMap_append, List.flatMap_cons, List.flatMap_nil, List.append_nil, zr]
      obtain ⟨G', fin⟩ := fin
      exact ⟨_, _, _, rfl, (ss_nx b2).trans ((ss_nx fin).trans qSs_nil), ⟨_, _, rfl⟩, G', rfl⟩)
  have e4 : evSs (FN (n + 1)) pg.above WF m_Runner_outer.body (startEn m_Runner_outer [.ref r, .tup [.str "outer", c, pa, pb], .ref m1, .ref m2]) h = some (.ret (.ref h.length) (h ++ Ob.lst (outersP as bs P) :: G)) :=
    (ss_nx e1).trans ((ss_nx e2).trans ((ss_nx e3).trans (ret_ev (ev_var rfl))))
  rw [run_ret (d := m_Runner_outer) rfl e4]
  exact congrArg some (gc_list h (Ob.lst (outersP as bs P) :: G) 0 _ rfl nr)
end Pl

set_option Elab.async false
set_option linter.all false
set_option maxRecDepth 100000
set_option autoImplicit false
set_option maxHeartbeats 0
/-! Pl31: plain steps: groups, the first loop. -/
namespace Pl
open PySem Ev PK Qe
theorem k_groups : keys.lookup (("Runner" : Str), ("groups" : Str)) = some m_Runner_groups := by rfl
theorem has_groups : pg.hasM "Runner" "groups" = true := by decide +kernel
/-- the integers of the rows, the first one of each -/
def ks (s : List D) : List Int := s.foldl (fun acc d => if col1 d ∈ acc then acc else acc ++ [col1 d]) []
theorem ks_snoc (s : List D) (d : D) : ks (s ++ [d]) = if col1 d ∈ ks s then ks s else ks s ++ [col1 d] := by
  unfold ks
  rw [List.foldl_append]
  rfl
theorem ks_mem {s : List D} {i : Int} : i ∈ ks s ↔ ∃ d ∈ s, col1 d = i := by
  induction s using snocI with
  | h0 => simp [ks]
  | h1 s d ih =>
    rw [ks_snoc]
    by_cases h : col1 d ∈ ks s
    · rw [if_pos h, ih]
      constructor
      · rintro ⟨x, hx, e⟩; exact ⟨x, by simp [hx], e⟩
      · rintro ⟨x, hx, e⟩
        rcases List.mem_append.mp hx with hx | hx
        · exact ⟨x, hx, e⟩
        · simp at hx; subst hx; subst e; exact ih.mp h
    · rw [if_neg h, List.mem_append, ih]
      constructor
      · rintro (⟨x, hx, e⟩ | hx)
        · exact ⟨x, by simp [hx], e⟩
        · simp at hx; exact ⟨d, by simp, hx.symm⟩
      · rintro ⟨x, hx, e⟩
        rcases List.mem_append.mp hx with hx | hx
        · exact .inl ⟨x, hx, e⟩
        · simp at hx; subst hx; exact .inr (by simp [e])
theorem ks_nodup (s : List D) : (ks s).Nodup := by
  induction s using snocI with
  | h0 => simp [ks]
  | h1 s d ih =>
    rw [ks_snoc]
    by_cases h : col1 d ∈ ks s
    · rw [if_pos h]; exact ih
    · rw [if_neg h, List.nodup_append]
      exact ⟨ih, by simp, fun a ha b hb => by simp at hb; subst hb; exact fun e => h (e ▸ ha)⟩
theorem ks_len (s : List D) : (ks s).length ≤ s.length := by
  induction s using snocI with
  | h0 => simp [ks]
  | h1 s d ih =>
    rw [ks_snoc]
    by_cases h : col1 d ∈ ks s
    · rw [if_pos h, List.length_append]; omega
    · rw [if_neg h, List.length_append, List.length_append]; simp; omega
def ofK (s : List D) (i : Int) : List D := s.filter fun d => decide (col1 d = i)
def kvT (T : List (Int × Nat)) : List (List L2.Key × D) := T.map fun t => ([Sum.inl 2, Sum.inl t.1], .ref t.2)
theorem getV_T {i : Int} : ∀ {T : List (Int × Nat)}, (i ∉ T.map (·.1) → getV (kvT T) [Sum.inl 2, Sum.inl i] = none) ∧ (i ∈ T.map (·.1) → ∃ m, (i, m) ∈ T ∧ getV (kvT T) [Sum.inl 2, Sum.inl i] = some (.ref m))
  | [] => ⟨fun _ => rfl, fun h => by simp at h⟩
  | (k, m) :: T => by
    have ih := getV_T (i := i) (T := T)
    simp only [getV, kvT, List.map_cons, List.find?_cons] at ih ⊢
    by_cases e : k = i
    · subst e
      exact ⟨fun h => by simp at h, fun _ => ⟨m, by simp, by simp⟩⟩
    · have ne : ¬ ([Sum.inl 2, Sum.inl k] : List L2.Key) = [Sum.inl 2, Sum.inl i] := by simp [e]
      simp only [ne, decide_false]
      have ne' : ¬ i = k := fun q => e q.symm
      constructor
      · intro h; exact ih.1 (by simpa [ne'] using h)
      · intro h
        obtain ⟨m', h1, h2⟩ := ih.2 (by simpa [ne'] using h)
        exact ⟨m', by simp [h1], h2⟩
/-- the groups of a beginning of the rows -/
structure GI (b : Nat) (s : List D) (T : List (Int × Nat)) (H : Hb) : Prop where
  keys : T.map (·.1) = ks s
  refs : (T.map (·.2)).Nodup
  at_ : ∀ t ∈ T, b < t.2 ∧ H[t.2]? = some (.lst (ofK s t.1))
theorem keyT {T : List (Int × Nat)} (nd : (T.map (·.1)).Nodup) {t u : Int × Nat} (ht : t ∈ T) (hu : u ∈ T) (e : t.1 = u.1) : t = u := by
  induction T with
  | nil => simp at ht
  | cons x T ih =>
    simp only [List.map_cons, List.nodup_cons, List.mem_map, not_exists, not_and] at nd
    rcases List.mem_cons.mp ht with rfl | ht' <;> rcases List.mem_cons.mp hu with rfl | hu'
    · rfl
    · exact absurd e.symm (nd.1 u hu')
    · exact absurd e (nd.1 t ht')
    · exact ih nd.2 ht' hu'
theorem refT {T : List (Int × Nat)} (nd : (T.map (·.2)).Nodup) {t u : Int × Nat} (ht : t ∈ T) (hu : u ∈ T) (e : t.2 = u.2) : t = u := by
  induction T with
  | nil => simp at ht
  | cons x T ih =>
    simp only [List.map_cons, List.nodup_cons, List.mem_map, not_exists, not_and] at nd
    rcases List.mem_cons.mp ht with rfl | ht' <;> rcases List.mem_cons.mp hu with rfl | hu'
    · rfl
    · exact absurd e.symm (nd.1 u hu')
    · exact absurd e (nd.1 t ht')
    · exact ih nd.2 ht' hu'
theorem ofK_snoc (s : List D) (d : D) (i : Int) : ofK (s ++ [d]) i = if col1 d = i then ofK s i ++ [d] else ofK s i := by
  unfold ofK
  rw [List.filter_append]
  by_cases h : col1 d = i
  · rw [if_pos h, List.filter_cons_of_pos (by simp [h])]; rfl
  · rw [if_neg h, List.filter_cons_of_neg (by simp [h])]; simp
/-- a row of a group that is there -/
theorem GI.old {b : Nat} {s : List D} {T : List (Int × Nat)} {H : Hb} {d : D} {m : Nat} (g : GI b s T H) (hm : (col1 d, m) ∈ T) : GI b (s ++ [d]) T (H.set m (.lst (ofK s (col1 d) ++ [d]))) := by
  have hk : col1 d ∈ ks s := by rw [← g.keys]; exact List.mem_map.mpr ⟨_, hm, rfl⟩
  refine ⟨by rw [ks_snoc, if_pos hk]; exact g.keys, g.refs, fun t ht => ⟨(g.at_ t ht).1, ?_⟩⟩
  by_cases e : t.2 = m
  · have := refT g.refs ht hm e
    subst this
    have lt := (List.getElem?_eq_some_iff.mp (g.at_ _ hm).2).1
    rw [ofK_snoc, if_pos rfl, List.getElem?_set_self lt]
  · have ne : col1 d ≠ t.1 := fun q => e (by have := keyT (by rw [g.keys]; exact ks_nodup s) ht hm q.symm; rw [this])
    rw [ofK_snoc, if_neg ne, List.getElem?_set_ne (by exact fun q => e q.symm)]
    exact (g.at_ t ht).2
/-- .. of a new one -/
theorem GI.new {b : Nat} {s : List D} {T : List (Int × Nat)} {H H' : Hb} {d : D} {m : Nat} (g : GI b s T H) (hk : col1 d ∉ ks s) (hb : b < m) (hm : ∀ t ∈ T, t.2 ≠ m) (hH : ∀ t ∈ T, H'[t.2]? = H[t.2]?) (hn : H'[m]? = some (.lst [d])) : GI b (s ++ [d]) (T ++ [(col1 d, m)]) H' := by
  refine ⟨by rw [ks_snoc, if_neg hk, List.map_append, g.keys]; rfl, ?_, fun t ht => ?_⟩
  · rw [List.map_append, List.nodup_append]
    exact ⟨g.refs, by simp, fun a ha c hc => by
      simp at hc; subst hc
      obtain ⟨t, ht, rfl⟩ := List.mem_map.mp ha
      exact hm t ht⟩
  · rcases List.mem_append.mp ht with ht | ht
    · have ne : col1 d ≠ t.1 := fun q => hk (by rw [q, ← g.keys]; exact List.mem_map.mpr ⟨t, ht, rfl⟩)
      rw [ofK_snoc, if_neg ne, hH t ht]
      exact g.at_ t ht
    · simp at ht; subst ht
      refine ⟨hb, ?_⟩
      have : ofK s (col1 d) = [] := by
        unfold ofK
        rw [List.filter_eq_nil_iff]
        intro x hx q
        exact hk (ks_mem.mpr ⟨x, hx, by simpa using q⟩)
      rw [ofK_snoc, if_pos rfl, this]
      exact hn
end Pl

set_option Elab.async false
set_option linter.all false
set_option maxRecDepth 100000
set_option autoImplicit false
set_option maxHeartbeats 0
/-! Pl32: plain steps: groups, the first loop walked; values of a group. -/
namespace Pl
open PySem Ev PK Qe
theorem RowS_key (n : Nat) (H : Hb) (i : Int) (m : Nat) (hm : H[m]? = some (Ob.lst [.int i])) : (FN (n + 2)).run Str.empty "row_key" [.ref m] H = some (.ok (.tup [.int 2, .int i]) H) := by
  have := row_key_run n H (.ref m) (.lst m) [.int i] (fun G => by rw [qI_val, ev_var (d := .ref m) rfl]; simp only [bnd_ok, items_of (at_old hm)]; rfl) (fun G => size_lst (at_old hm)) (fun G k => at_lst (at_old hm) k) (by simp [cell]) (by simp)
  simpa [vkey] using this
abbrev envG (r : Nat) (plan : D) (m b : Nat) (v w : Option D) : En := [some (.ref r), some plan, some (.ref m), some (.ref b), v, w, none, none, none, none, none]
theorem at_last_sw (h G : Hb) (A B x y : Ob) : ((h ++ A :: G) ++ [x] ++ [y])[((h ++ B :: G) ++ [x]).length]? = some y := by
  rw [show ((h ++ B :: G) ++ [x]).length = ((h ++ A :: G) ++ [x]).length by simp]
  exact at_last _ _
theorem lt_last_sw (h G : Hb) (A B x y : Ob) : ((h ++ B :: G) ++ [x]).length < ((h ++ A :: G) ++ [x] ++ [y]).length := by simp
/-- one turn of the first loop -/
theorem group_turn (n : Nat) (h : Hb) (r m : Nat) (c p : D) (s : List D) (T : List (Int × Nat)) (G : Hb) (d : D) (v w : Option D) (i : Int) (x : D) (hd : d = .tup [x, .int i]) (g : GI h.length s T (h ++ Ob.dt (kvT T) :: G)) (hl : s.length < sizeLine) :
    ∃ w' T' G', evSs (FN (n + 2)) pg.above WF (.cons (.asg (.tg (.nm 5)) (.ite (.cmp .Is (.idx (.var 1) (.int 1)) .non) (.tup .nil) (.call "row_key" (.cons (.comp true (.nm 9) (.val (.idx (.var 1) (.int 1))) .yes (.idx (.var 4) (.var 9))) .nil))))
 (.cons (.expr (.bm .append (.bm .setd (.var 3) (.cons (.var 5) (.cons (.lst .nil) .nil))) (.cons (.var 4) .nil)))
 .nil)) (envG r (.tup [.str "group", .tup [.int 1], c, .non, p]) m h.length (some d) w) (h ++ Ob.dt (kvT T) :: G) = some (.nx (envG r (.tup [.str "group", .tup [.int 1], c, .non, p]) m h.length (some d) w') (h ++ Ob.dt (kvT T') :: G')) ∧ GI h.length (s ++ [d]) T' (h ++ Ob.dt (kvT T') :: G') := by
  have ci : col1 d = i := by subst hd; rfl
  have e1 : evE (FN (n + 2)) (.comp true (.nm 9) (.val (.idx (.var 1) (.int 1))) .yes (.idx (.var 4) (.var 9))) (envG r (.tup [.str "group", .tup [.int 1], c, .non, p]) m h.length (some d) w) (h ++ Ob.dt (kvT T) :: G) = some (.ok (.ref (h ++ Ob.dt (kvT T) :: G).length) ((h ++ Ob.dt (kvT T) :: G) ++ [Ob.lst [.int i]])) := by
    have := ev_compT (F := FN (n + 2)) (ρ := envG r (.tup [.str "group", .tup [.int 1], c, .non, p]) m h.length (some d) w) (h := h ++ Ob.dt (kvT T) :: G) (x := true) (g := 9) (it := .idx (.var 1) (.int 1)) (c := .yes) (e := .idx (.var 4) (.var 9)) (ds := [.int 1]) (P := fun _ => true) (f := fun _ => .int i)
      (ev_idx (e := .tup [.int 1]) (d := .tup [.str "group", .tup [.int 1], c, .non, p]) rfl (by simp [idxD, ix_1])) (fun y hy => ⟨qT_yes, fun _ => by
        simp at hy; subst hy
        rw [qE_idx, ev_var (d := d) rfl, bnd_ok, ev_var (d := .int 1) rfl, bnd_ok]
        subst hd
        simp [idxD, ix_1]⟩) (by simp [sizeLine_eq'])
    exact this
  have e2 : evS (FN (n + 2)) pg.above WF (.asg (.tg (.nm 5)) (.ite (.cmp .Is (.idx (.var 1) (.int 1)) .non) (.tup .nil) (.call "row_key" (.cons (.comp true (.nm 9) (.val (.idx (.var 1) (.int 1))) .yes (.idx (.var 4) (.var 9))) .nil)))) (envG r (.tup [.str "group", .tup [.int 1], c, .non, p]) m h.length (some d) w) (h ++ Ob.dt (kvT T) :: G) = some (.nx (envG r (.tup [.str "group", .tup [.int 1], c, .non, p]) m h.length (some d) (some (.tup [.int 2, .int i]))) ((h ++ Ob.dt (kvT T) :: G) ++ [Ob.lst [.int i]])) := by
    rw [qS_asg_tg, qE_ite, qT_cmp, ev_idx (e := .tup [.int 1]) (d := .tup [.str "group", .tup [.int 1], c, .non, p]) rfl (by simp [idxD, ix_1]), bnd_ok, qE_non, bnd_ok]
    simp only [cmpD, isD, show decide ((D.tup [.int 1]) = .non) = false from rfl, bnd_ok]
    rw [qE_call, qL_cons, e1, bnd_ok, qL_nil, bnd_ok, bnd_ok, RowS_key n _ i _ (by rw [at_new0]; rfl)]
    rfl
  have hdt : ((h ++ Ob.dt (kvT T) :: G) ++ [Ob.lst [.int i]] ++ [Ob.lst []])[h.length]? = some (Ob.dt (kvT T)) := by
    simp only [List.append_assoc, List.cons_append]; exact at_newc _ _ _
  have hdt0 : ((h ++ Ob.dt (kvT T) :: G) ++ [Ob.lst [.int i]])[h.length]? = some (Ob.dt (kvT T)) := by
    simp only [List.append_assoc, List.cons_append]; exact at_newc _ _ _
  have el : evL (FN (n + 2)) (.cons (.var 5) (.cons (.lst .nil) .nil)) (envG r (.tup [.str "group", .tup [.int 1], c, .non, p]) m h.length (some d) (some (.tup [.int 2, .int i]))) ((h ++ Ob.dt (kvT T) :: G) ++ [Ob.lst [.int i]]) = some (.ok [.tup [.int 2, .int i], .ref ((h ++ Ob.dt (kvT T) :: G) ++ [Ob.lst [.int i]]).length] ((h ++ Ob.dt (kvT T) :: G) ++ [Ob.lst [.int i]] ++ [Ob.lst []])) := by
    rw [qL_cons, ev_var (d := .tup [.int 2, .int i]) rfl, bnd_ok, qL_cons, qE_lst, qL_nil, bnd_ok, if_pos (by simp)]
    simp only [Ev.newList, bnd_ok, qL_nil]
  have tl : (kvT T).length < sizeLine := by
    have : (T.map (·.1)).length = (ks s).length := by rw [g.keys]
    have := ks_len s
    simp only [kvT, List.length_map] at *
    omega
  -- the list of the group
  have e3 : ∀ (q : Nat) (H' : Hb) (ms : List D), bmD .setd ((h ++ Ob.dt (kvT T) :: G) ++ [Ob.lst [.int i]] ++ [Ob.lst []]) (.ref h.length) [.tup [.int 2, .int i], .ref ((h ++ Ob.dt (kvT T) :: G) ++ [Ob.lst [.int i]]).length] = some (.ref q, H') → H'[q]? = some (.lst ms) → ms.length < sizeLine →
      evS (FN (n + 2)) pg.above WF (.expr (.bm .append (.bm .setd (.var 3) (.cons (.var 5) (.cons (.lst .nil) .nil))) (.cons (.var 4) .nil))) (envG r (.tup [.str "group", .tup [.int 1], c, .non, p]) m h.length (some d) (some (.tup [.int 2, .int i]))) ((h ++ Ob.dt (kvT T) :: G) ++ [Ob.lst [.int i]]) = some (.nx (envG r (.tup [.str "group", .tup [.int 1], c, .non, p]) m h.length (some d) (some (.tup [.int 2, .int i]))) (H'.set q (.lst (ms ++ [d])))) := by
    intro q H' ms hb hq hm
    rw [qS_expr, qE_bm, qE_bm, ev_var (d := .ref h.length) rfl, bnd_ok]
    simp only [bmT, hdt0, if_true]
    rw [el, bnd_ok, hb]
    simp only [bnd_ok, items_of hq, Option.isSome, if_true]
    rw [evL1 (ev_var (d := d) rfl), bnd_ok]
    simp only [bmD, hq, if_pos hm, sB_ok]
  have bm : bmD .setd ((h ++ Ob.dt (kvT T) :: G) ++ [Ob.lst [.int i]] ++ [Ob.lst []]) (.ref h.length) [.tup [.int 2, .int i], .ref ((h ++ Ob.dt (kvT T) :: G) ++ [Ob.lst [.int i]]).length] = (match getV (kvT T) [Sum.inl 2, Sum.inl i] with
      | some v => some (v, (h ++ Ob.dt (kvT T) :: G) ++ [Ob.lst [.int i]] ++ [Ob.lst []])
      | none => some (.ref ((h ++ Ob.dt (kvT T) :: G) ++ [Ob.lst [.int i]]).length, ((h ++ Ob.dt (kvT T) :: G) ++ [Ob.lst [.int i]] ++ [Ob.lst []]).set h.length (Ob.dt (kvT T ++ [([Sum.inl 2, Sum.inl i], .ref ((h ++ Ob.dt (kvT T) :: G) ++ [Ob.lst [.int i]]).length)])))) := by
    simp only [bmD, hdt, keysOf, keyOf, if_pos tl]
    try rfl
  have shape : ∀ (A : Ob) (o : Ob) (q : Nat), h.length < q → ((h ++ A :: G) ++ [Ob.lst [.int i]] ++ [Ob.lst []]).set q o = h ++ A :: ((G ++ [Ob.lst [.int i]] ++ [Ob.lst []]).set (q - h.length - 1) o) := by
    intro A o q hq
    simp only [List.append_assoc, List.cons_append]
    rw [List.set_append_right _ _ (by omega)]
    obtain ⟨k, rfl⟩ : ∃ k, q = h.length + (k + 1) := ⟨q - h.length - 1, by omega⟩
    have e1 : h.length + (k + 1) - h.length = k + 1 := by omega
    have e2 : h.length + (k + 1) - h.length - 1 = k := by omega
    rw [e1, List.set_cons_succ]
    rfl
  have olds : ∀ t ∈ T, ((h ++ Ob.dt (kvT T) :: G) ++ [Ob.lst [.int i]] ++ [Ob.lst []])[t.2]? = (h ++ Ob.dt (kvT T) :: G)[t.2]? := fun t ht => by
    have := at_old (g := [Ob.lst [.int i]] ++ [Ob.lst []]) (g.at_ t ht).2
    rw [← List.append_assoc] at this
    rw [this, (g.at_ t ht).2]
  by_cases hk : i ∈ ks s
  · obtain ⟨q, hq, hv⟩ := (getV_T (i := i) (T := T)).2 (by rw [g.keys]; exact hk)
    rw [hv] at bm
    have gq := g.at_ _ hq
    have hq2 : ((h ++ Ob.dt (kvT T) :: G) ++ [Ob.lst [.int i]] ++ [Ob.lst []])[q]? = some (Ob.lst (ofK s i)) := by rw [olds _ hq]; exact gq.2
    have fl : (ofK s i).length < sizeLine := Nat.lt_of_le_of_lt (List.length_filter_le _ s) hl
    have g2 : GI h.length s T ((h ++ Ob.dt (kvT T) :: G) ++ [Ob.lst [.int i]] ++ [Ob.lst []]) := ⟨g.keys, g.refs, fun t ht => ⟨(g.at_ t ht).1, by rw [olds t ht]; exact (g.at_ t ht).2⟩⟩
    have g3 := g2.old (d := d) (m := q) (by rw [ci]; exact hq)
    rw [ci, shape _ _ _ gq.1] at g3
    refine ⟨some (.tup [.int 2, .int i]), T, _, ?_, g3⟩
    rw [ss_nx e2, ss_nx (e3 q _ (ofK s i) bm hq2 fl), qSs_nil, shape _ _ _ gq.1]
  · have hv := (getV_T (i := i) (T := T)).1 (by rw [g.keys]; exact hk)
    rw [hv] at bm
    simp only [] at bm
    have L : h.length < ((h ++ Ob.dt (kvT T) :: G) ++ [Ob.lst [.int i]]).length := by simp only [List.length_append, List.length_cons]; omega
    have hset : ((h ++ Ob.dt (kvT T) :: G) ++ [Ob.lst [.int i]] ++ [Ob.lst []]).set h.length (Ob.dt (kvT T ++ [([Sum.inl 2, Sum.inl i], .ref ((h ++ Ob.dt (kvT T) :: G) ++ [Ob.lst [.int i]]).length)])) = (h ++ Ob.dt (kvT (T ++ [(i, ((h ++ Ob.dt (kvT T) :: G) ++ [Ob.lst [.int i]]).length)])) :: G) ++ [Ob.lst [.int i]] ++ [Ob.lst []] := by
      simp only [List.append_assoc, List.cons_append, set_new, kvT, List.map_append, List.map_cons, List.map_nil]
    rw [hset] at bm
    have hq2 : ((h ++ Ob.dt (kvT (T ++ [(i, ((h ++ Ob.dt (kvT T) :: G) ++ [Ob.lst [.int i]]).length)])) :: G) ++ [Ob.lst [.int i]] ++ [Ob.lst []])[((h ++ Ob.dt (kvT T) :: G) ++ [Ob.lst [.int i]]).length]? = some (Ob.lst []) := by
      exact at_last_sw h G _ _ _ _
    have mid : ∀ t ∈ T, t.2 ≠ ((h ++ Ob.dt (kvT T) :: G) ++ [Ob.lst [.int i]]).length := fun t ht e => by
      have := (List.getElem?_eq_some_iff.mp (g.at_ t ht).2).1
      rw [e] at this
      simp only [List.length_append, List.length_cons, List.length_nil] at this
      omega
    have g3 : GI h.length (s ++ [d]) (T ++ [(col1 d, ((h ++ Ob.dt (kvT T) :: G) ++ [Ob.lst [.int i]]).length)]) (((h ++ Ob.dt (kvT (T ++ [(i, ((h ++ Ob.dt (kvT T) :: G) ++ [Ob.lst [.int i]]).length)])) :: G) ++ [Ob.lst [.int i]] ++ [Ob.lst []]).set ((h ++ Ob.dt (kvT T) :: G) ++ [Ob.lst [.int i]]).length (Ob.lst ([] ++ [d]))) := by
      refine GI.new g (by rw [ci]; exact hk) L mid (fun t ht => ?_) ?_
      · rw [List.getElem?_set_ne (fun q => mid t ht q.symm)]
        have a := (g.at_ t ht).1
        have lt := (List.getElem?_eq_some_iff.mp (g.at_ t ht).2).1
        simp only [List.append_assoc, List.cons_append]
        obtain ⟨k, hk⟩ : ∃ k, t.2 = h.length + (k + 1) := ⟨t.2 - h.length - 1, by omega⟩
        rw [hk, at_new, at_new, List.getElem?_cons_succ, List.getElem?_cons_succ]
        rw [hk] at lt
        simp only [List.length_append, List.length_cons] at lt
        rw [List.getElem?_append_left (by omega)]
      · rw [List.getElem?_set_self (lt_last_sw h G _ _ _ _)]
        rfl
    rw [ci, shape _ _ _ L] at g3
    refine ⟨some (.tup [.int 2, .int i]), T ++ [(i, ((h ++ Ob.dt (kvT T) :: G) ++ [Ob.lst [.int i]]).length)], _, ?_, g3⟩
    rw [ss_nx e2, ss_nx (e3 _ _ [] bm hq2 (by simp [sizeLine_eq'])), qSs_nil, shape _ _ _ L]
theorem group_loop (n : Nat) (h : Hb) (r m : Nat) (c p : D) (rows : List D) (hm : h[m]? = some (.lst rows)) (hr : ∀ d ∈ rows, ∃ x i, d = .tup [x, .int i]) (hl : rows.length < sizeLine) :
    ∃ v w T G, evS (FN (n + 2)) pg.above WF (.fors (.nm 4) (.val (.var 2)) (.cons (.asg (.tg (.nm 5)) (.ite (.cmp .Is (.idx (.var 1) (.int 1)) .non) (.tup .nil) (.call "row_key" (.cons (.comp true (.nm 9) (.val (.idx (.var 1) (.int 1))) .yes (.idx (.var 4) (.var 9))) .nil))))
 (.cons (.expr (.bm .append (.bm .setd (.var 3) (.cons (.var 5) (.cons (.lst .nil) .nil))) (.cons (.var 4) .nil)))
 .nil))) (envG r (.tup [.str "group", .tup [.int 1], c, .non, p]) m h.length none none) (h ++ [Ob.dt []]) = some (.nx (envG r (.tup [.str "group", .tup [.int 1], c, .non, p]) m h.length v w) (h ++ Ob.dt (kvT T) :: G)) ∧ GI h.length rows T (h ++ Ob.dt (kvT T) :: G) := by
  obtain ⟨ρ', h', e, ⟨v, w, rfl⟩, T, G, rfl, g⟩ := fors_fold (F := FN (n + 2)) (U := pg.above) (Wf := WF) (J := .lst m) (g := .nm 4) (it := .val (.var 2)) (b := (.cons (.asg (.tg (.nm 5)) (.ite (.cmp .Is (.idx (.var 1) (.int 1)) .non) (.tup .nil) (.call "row_key" (.cons (.comp true (.nm 9) (.val (.idx (.var 1) (.int 1))) .yes (.idx (.var 4) (.var 9))) .nil))))
 (.cons (.expr (.bm .append (.bm .setd (.var 3) (.cons (.var 5) (.cons (.lst .nil) .nil))) (.cons (.var 4) .nil)))
 .nil))) (ds := rows)
    (I := fun s ρ H => (∃ v w, ρ = envG r (.tup [.str "group", .tup [.int 1], c, .non, p]) m h.length v w) ∧ ∃ T G, H = h ++ Ob.dt (kvT T) :: G ∧ GI h.length s T H)
    (ρ := envG r (.tup [.str "group", .tup [.int 1], c, .non, p]) m h.length none none) (h := h ++ [Ob.dt []])
    (by rw [qI_val, ev_var (d := .ref m) rfl]; simp only [bnd_ok, items_of (at_old hm)]; rfl) (size_lst (at_old hm)) ⟨⟨_, _, rfl⟩, [], [], rfl, ⟨rfl, by simp, fun t ht => by simp at ht⟩⟩ (fun s ρ H i k => by obtain ⟨-, T, G, rfl, -⟩ := i; exact at_lst (at_old hm) k)
    (fun s ρ H d i ht => by
      obtain ⟨⟨v, w, rfl⟩, T, G, rfl, g⟩ := i
      obtain ⟨t, ht⟩ := ht
      obtain ⟨x, i, hd⟩ := hr d (by rw [ht]; simp)
      have len := congrArg List.length ht
      simp only [List.length_append, List.length_cons] at len
      obtain ⟨w', T', G', e, g'⟩ := group_turn n h r m c p s T G d (some d) w i x hd g (by omega)
      exact ⟨_, _, _, rfl, e, ⟨_, _, rfl⟩, T', G', rfl, g'⟩)
  exact ⟨v, w, T, G, e, g⟩
end Pl

set_option Elab.async false
set_option linter.all false
set_option maxRecDepth 100000
set_option autoImplicit false
set_option maxHeartbeats 0
/-! Pl33: plain steps: groups. -/
namespace Pl
open PySem Ev PK Qe
theorem k_aggregate : keys.lookup (Str.empty, ("aggregate" : Str)) = some f_aggregate := by rfl
def cntP : D := .tup [.str "count_all"]
theorem value_c2 {r S W : Nat} (n : Nat) (H : Hb) (er : H[r]? = some (rnr S W)) (a : D) (i : Int) (mem : D) : (FN (n + 5)).run "Runner" "value" [.ref r, colP, .tup [a, .int i], mem] H = some (.ok (.int i) H) := by
  have hv := value_col named2_1 (n + 1) (H ++ [.lst cols2, frm H.length (.tup [a, .int i]) mem]) (H.length + 1) H.length W [a, .int i] mem (.int i) (by rw [at_new]; rfl) (by rw [at_new0]; rfl) (by rw [ix_1]; rfl) rfl
  exact rv2 (n + 3) H r S W colP mem a (.int i) _ er rfl hv
theorem agg_count (n : Nat) (h : Hb) (f w m k : Nat) (row : D) (ms : List D) (ef : h[f]? = some (frm m row (.ref k))) (ek : h[k]? = some (.lst ms)) : (FN (n + 1)).run Str.empty "aggregate" [cntP, .ref f, .ref w] h = some (.ok (.int ms.length) h) := by
  rw [run_of k_aggregate]
  have e1 : evT (FN n) (.cmp .Eq (.idx (.var 0) (.int 0)) (.str "count_all")) [some cntP, some (.ref f), some (.ref w), none, none, none] h = some (.ok true h) := wordT rfl
  have e2 : evE (FN n) (.blt .len (.cons (.fld (.var 1) "members") .nil)) [some cntP, some (.ref f), some (.ref w), none, none, none] h = some (.ok (.int ms.length) h) := by
    have : evE (FN n) (.fld (.var 1) "members") [some cntP, some (.ref f), some (.ref w), none, none, none] h = some (.ok (.ref k) h) := by
      rw [qE_fld, ev_var (d := .ref f) rfl]
      simp only [bnd_ok, ef, frm]
      rfl
    rw [qE_blt, evL1 this]
    simp only [bnd_ok, bltD, items_of ek, Option.map, nvRes]
  have e3 : evSs (FN n) pg.above WF f_aggregate.body (startEn f_aggregate [cntP, .ref f, .ref w]) h = _ := hit e1 (ret_ev e2)
  rw [run_ret (d := f_aggregate) rfl e3]
  exact congrArg some (gc_same h _)
theorem value_count (n : Nat) (h : Hb) (f w m k : Nat) (row : D) (ms : List D) (ef : h[f]? = some (frm m row (.ref k))) (ek : h[k]? = some (.lst ms)) : (FN (n + 2)).run Str.empty "value_of" [cntP, .ref f, .ref w] h = some (.ok (.int ms.length) h) := by
  have ag := agg_count n h f w m k row ms ef ek
  simp only [cntP] at ag ⊢
  rw [run_of k_value_of]
  simp [runDf, f_value_of, startEn, qE_var, qE_int, qE_bl, qE_non, qE_str, qE_gint, qE_gtup, qE_bin, qE_neg, qE_notv, qE_andv, qE_orv, qE_cmp, qE_ite, qE_call, qE_make, qE_meth, qE_blt, qE_isin, qE_bm, qE_fld, qE_idx, qE_slc, qE_tup, qE_lst, qE_dnewT, qE_dnewK, qE_disp, qE_lvals, qL_nil, qL_cons, qO_none, qO_some, qT_and, qT_or, qT_not, qT_ex, qT_cmp, qT_yes, qI_val, qI_rng, qI_rng1, qI_enum, qS_expr, qS_ret, qS_retN, qS_asg_tg, qS_asg_fld, qS_asg_sub, qS_par, qS_aug, qS_augS, qS_ifs, qS_raise, qS_tryO, qS_brk, qS_cont, qS_pass, qSs_nil, qSs_cons, qE_comp, qE_comp2, qS_fors, qS_forV, qS_whil, sB_ok, sB_exc, bnd_ok, bnd_exc, getVar, setVar, bindTg, cmpD, eqD, isD, inD, inTup, scalEq, scalar, flat, flatEq, isAny, tyOf, kitD, tru, nvRes, bltD, binD, idxD, ix_0, ix_1, ix_2, ix_3, ix_4, str_beq, Ev.newList, noX, okX, augD, nonNegIx, fits62, Tg.slots, Ev.wipe, str_inj, sizeLine_eq', gc_same, ag]
theorem value_n2 {r S W : Nat} (n : Nat) (H : Hb) (er : H[r]? = some (rnr S W)) (a b : D) (k : Nat) (ms : List D) (ek : H[k]? = some (.lst ms)) : (FN (n + 3)).run "Runner" "value" [.ref r, cntP, .tup [a, b], .ref k] H = some (.ok (.int ms.length) H) := by
  have hv := value_count n (H ++ [.lst cols2, frm H.length (.tup [a, b]) (.ref k)]) (H.length + 1) W H.length k (.tup [a, b]) ms (by rw [at_new]; rfl) (at_old ek)
  exact rv2 (n + 1) H r S W cntP (.ref k) a b _ er rfl hv
abbrev planG (p : D) : D := .tup [.str "group", .tup [.int 1], .tup [colP, cntP], .non, p]
abbrev envH (r : Nat) (plan : D) (m b F : Nat) (v w x y : Option D) : En := [some (.ref r), some plan, some (.ref m), some (.ref b), v, w, some (.ref F), x, y, none, none]
/-- a row of a group -/
def grow (s : List D) (i : Int) : D := .tup [.int i, .int (ofK s i).length]
def colNe : (cntP = colP) = False := by decide +kernel
theorem group_out (n : Nat) (H : Hb) (r m b F : Nat) (p : D) (v w x y : Option D) (q S W : Nat) (ms out : List D) (a : D) (i : Int) (t : List D) (er : H[r]? = some (rnr S W)) (hq : H[q]? = some (.lst ms)) (hF : H[F]? = some (.lst out)) (hms : ms = .tup [a, .int i] :: t) (ro : ∀ d ∈ ms, rowOk d = true) (ho : out.length < sizeLine) :
    ∃ G, evSs (FN (n + 5)) pg.above WF (.cons (.asg (.tg (.nm 8)) (.ite (.cmp .NotEq (.var 7) (.lst .nil)) (.idx (.var 7) (.int 0)) (.tup .nil)))
 (.cons (.ifs (.or (.cmp .Is (.idx (.var 1) (.int 3)) .non) (.cmp .Is (.meth (.var 0) "value" (.cons (.idx (.var 1) (.int 3)) (.cons (.var 8) (.cons (.var 7) .nil)))) (.bl true)))
 (.cons (.expr (.bm .append (.var 6) (.cons (.blt .tuple (.cons (.comp true (.nm 10) (.val (.idx (.var 1) (.int 2))) .yes (.meth (.var 0) "value" (.cons (.var 10) (.cons (.var 8) (.cons (.var 7) .nil))))) .nil)) .nil)))
 .nil)
 .nil)
 .nil)) (envH r (planG p) m b F v w (some (.ref q)) y) H = some (.nx (envH r (planG p) m b F v w (some (.ref q)) (some (.tup [a, .int i]))) ((H ++ G).set F (Ob.lst (out ++ [.tup [.int i, .int ms.length]])))) := by
  have ne := ev_neNil (F := FN (n + 5)) (ρ := envH r (planG p) m b F v w (some (.ref q)) y) (x := 7) rfl hq ro
  have e1 : evS (FN (n + 5)) pg.above WF (.asg (.tg (.nm 8)) (.ite (.cmp .NotEq (.var 7) (.lst .nil)) (.idx (.var 7) (.int 0)) (.tup .nil))) (envH r (planG p) m b F v w (some (.ref q)) y) H = some (.nx (envH r (planG p) m b F v w (some (.ref q)) (some (.tup [a, .int i]))) (H ++ [Ob.lst []])) := by
    rw [qS_asg_tg, qE_ite, ne, hms]
    simp only [List.isEmpty, Bool.not_false, bnd_ok]
    rw [ev_idx (e := .tup [a, .int i]) (d := .ref q) rfl (by simp [idxD, at_old hq, hms, ix_0])]
    rfl
  have e2 : evT (FN (n + 5)) (.or (.cmp .Is (.idx (.var 1) (.int 3)) .non) (.cmp .Is (.meth (.var 0) "value" (.cons (.idx (.var 1) (.int 3)) (.cons (.var 8) (.cons (.var 7) .nil)))) (.bl true))) (envH r (planG p) m b F v w (some (.ref q)) (some (.tup [a, .int i]))) (H ++ [Ob.lst []]) = some (.ok true (H ++ [Ob.lst []])) := by
    rw [qT_or, qT_cmp, ev_idx (e := .non) (d := planG p) rfl (by simp [idxD, ix_3]), bnd_ok, qE_non, bnd_ok]
    rfl
  have e3 := ev_compT (F := FN (n + 5)) (ρ := envH r (planG p) m b F v w (some (.ref q)) (some (.tup [a, .int i]))) (h := H ++ [Ob.lst []]) (x := true) (g := 10) (it := .idx (.var 1) (.int 2)) (c := .yes) (e := .meth (.var 0) "value" (.cons (.var 10) (.cons (.var 8) (.cons (.var 7) .nil)))) (ds := [colP, cntP]) (P := fun _ => true) (f := fun d => if d = colP then .int i else .int ms.length)
    (ev_idx (e := .tup [colP, cntP]) (d := planG p) rfl (by simp [idxD, ix_2])) (fun z hz => ⟨qT_yes, fun _ => by
      rw [ev_meth (r := r) rfl (at_old er) (by intro fs e; cases e; rfl) has_value (evL3 (ev_var (d := z) rfl) (ev_var (d := .tup [a, .int i]) rfl) (ev_var (d := .ref q) rfl))]
      simp only [List.mem_cons, List.not_mem_nil, or_false] at hz
      rcases hz with rfl | rfl
      · rw [if_pos rfl]; exact value_c2 n _ (at_old er) a i _
      · rw [if_neg (by rw [colNe]; exact id)]; exact value_n2 (n + 2) _ (at_old er) a _ q ms (at_old hq)⟩) (by simp [sizeLine_eq'])
  have l : ([colP, cntP].filter (fun _ => true)).map (fun d => if d = colP then .int i else .int ms.length) = [D.int i, .int ms.length] := by
    rw [List.filter_eq_self.mpr (fun _ _ => rfl)]
    simp only [List.map_cons, List.map_nil, if_true, colNe, if_false]
  rw [l] at e3
  have e4 : evE (FN (n + 5)) (.blt .tuple (.cons (.comp true (.nm 10) (.val (.idx (.var 1) (.int 2))) .yes (.meth (.var 0) "value" (.cons (.var 10) (.cons (.var 8) (.cons (.var 7) .nil))))) .nil)) (envH r (planG p) m b F v w (some (.ref q)) (some (.tup [a, .int i]))) (H ++ [Ob.lst []]) = some (.ok (.tup [.int i, .int ms.length]) (H ++ [Ob.lst [], Ob.lst [.int i, .int ms.length]])) := by
    rw [qE_blt, qL_cons, e3, bnd_ok, qL_nil, bnd_ok, bnd_ok]
    simp [bltD, items, nvRes]
  have e5 := ev_append (F := FN (n + 5)) (U := pg.above) (Wf := WF) (x := 6) (n := F) rfl (by rw [items_of (at_old hF)]; rfl) e4 (at_old hF) ho
  exact ⟨_, (ss_nx e1).trans ((ss_nx ((ifs_t e2).trans ((ss_nx e5).trans qSs_nil))).trans qSs_nil)⟩
/-- Runner.groups -/
theorem groups_run (n : Nat) (h : Hb) (r m S W : Nat) (p : D) (rows : List D) (er : h[r]? = some (rnr S W)) (hm : h[m]? = some (.lst rows)) (hr : ∀ d ∈ rows, ∃ x i, d = .tup [x, .int i]) (ro : ∀ d ∈ rows, rowOk d = true) (hl : rows.length < sizeLine) :
    (FN (n + 6)).run "Runner" "groups" [.ref r, planG p, .ref m] h = some (.ok (.ref h.length) (h ++ [Ob.lst ((ks rows).map (grow rows))])) := by
  rw [run_of k_groups]
  have e1 : evS (FN (n + 5)) pg.above WF (.asg (.tg (.nm 3)) .dnewT) (startEn m_Runner_groups [.ref r, planG p, .ref m]) h = some (.nx (envG r (planG p) m h.length none none) (h ++ [Ob.dt []])) := by
    rw [qS_asg_tg, qE_dnewT]; rfl
  obtain ⟨v, w, T, G, e2, g⟩ := group_loop (n + 3) h r m (.tup [colP, cntP]) p rows hm hr hl
  have e3 : evT (FN (n + 5)) (.and (.cmp .Is (.idx (.var 1) (.int 1)) .non) (.cmp .Eq (.var 2) (.lst .nil))) (envG r (planG p) m h.length v w) (h ++ Ob.dt (kvT T) :: G) = some (.ok false (h ++ Ob.dt (kvT T) :: G)) := by
    rw [qT_and, qT_cmp, ev_idx (e := .tup [.int 1]) (d := planG p) rfl (by simp [idxD, ix_1]), bnd_ok, qE_non, bnd_ok]
    rfl
  have e4 : evS (FN (n + 5)) pg.above WF (.asg (.tg (.nm 6)) (.lst .nil)) (envG r (planG p) m h.length v w) (h ++ Ob.dt (kvT T) :: G) = some (.nx (envH r (planG p) m h.length (h ++ Ob.dt (kvT T) :: G).length v w none none) ((h ++ Ob.dt (kvT T) :: G) ++ [Ob.lst []])) := by
    rw [qS_asg_tg, qE_lst, qL_nil, bnd_ok, if_pos (by simp)]; rfl
  have len2 : (h ++ Ob.dt (kvT T) :: G).length = (h ++ Ob.frz (Ob.dt (kvT T)) :: G).length := by simp
  have hz : ((h ++ Ob.dt (kvT T) :: G) ++ [Ob.lst []]).set h.length (Ob.frz (Ob.dt (kvT T))) = (h ++ Ob.frz (Ob.dt (kvT T)) :: G) ++ [Ob.lst []] := by
    simp only [List.append_assoc, List.cons_append, set_new]
  obtain ⟨ρ', h', e5, ⟨x, y, rfl⟩, G', rfl⟩ := fold_from (J := .tup ((kvT T).map (·.2))) (g := .nm 7) (b := evSs (FN (n + 5)) pg.above WF (.cons (.asg (.tg (.nm 8)) (.ite (.cmp .NotEq (.var 7) (.lst .nil)) (.idx (.var 7) (.int 0)) (.tup .nil)))
 (.cons (.ifs (.or (.cmp .Is (.idx (.var 1) (.int 3)) .non) (.cmp .Is (.meth (.var 0) "value" (.cons (.idx (.var 1) (.int 3)) (.cons (.var 8) (.cons (.var 7) .nil)))) (.bl true)))
 (.cons (.expr (.bm .append (.var 6) (.cons (.blt .tuple (.cons (.comp true (.nm 10) (.val (.idx (.var 1) (.int 2))) .yes (.meth (.var 0) "value" (.cons (.var 10) (.cons (.var 8) (.cons (.var 7) .nil))))) .nil)) .nil)))
 .nil)
 .nil)
 .nil))) (ds := (kvT T).map (·.2))
    (I := fun s ρ H => (∃ x y, ρ = envH r (planG p) m h.length (h ++ Ob.dt (kvT T) :: G).length v w x y) ∧ ∃ G', H = (h ++ Ob.frz (Ob.dt (kvT T)) :: G) ++ Ob.lst ((T.take s.length).map fun t => grow rows t.1) :: G')
    (fun s ρ H _ i => rfl)
    (fun s ρ H d i ht => by
      obtain ⟨⟨x, y, rfl⟩, G', rfl⟩ := i
      obtain ⟨t, ht⟩ := ht
      have lt : s.length < T.length := by
        have := congrArg List.length ht
        simp only [kvT, List.length_map, List.length_append, List.length_cons] at this
        omega
      have hd : d = .ref T[s.length].2 := by
        have := congrArg (fun z => z[s.length]?) ht
        simp [kvT, List.getElem?_eq_getElem lt] at this
        exact this.symm
      have ht' : T[s.length] ∈ T := List.getElem_mem lt
      obtain ⟨b1, b2⟩ := g.at_ _ ht'
      have b3 : ((h ++ Ob.frz (Ob.dt (kvT T)) :: G) ++ Ob.lst ((T.take s.length).map fun t => grow rows t.1) :: G')[T[s.length].2]? = some (Ob.lst (ofK rows T[s.length].1)) := by
        refine at_old ?_
        obtain ⟨k, hk⟩ : ∃ k, T[s.length].2 = h.length + (k + 1) := ⟨T[s.length].2 - h.length - 1, by omega⟩
        rw [hk, at_new, List.getElem?_cons_succ] at b2 ⊢
        exact b2
      have kin : T[s.length].1 ∈ ks rows := by rw [← g.keys]; exact List.mem_map.mpr ⟨_, ht', rfl⟩
      obtain ⟨z, hz1, hz2⟩ := ks_mem.mp kin
      have zin : z ∈ ofK rows T[s.length].1 := List.mem_filter.mpr ⟨hz1, by simp [hz2]⟩
      obtain ⟨f0, t0, hf⟩ : ∃ f0 t0, ofK rows T[s.length].1 = f0 :: t0 := by
        cases hq : ofK rows T[s.length].1 with
        | nil => rw [hq] at zin; simp at zin
        | cons f0 t0 => exact ⟨_, _, rfl⟩
      have f0in : f0 ∈ ofK rows T[s.length].1 := by rw [hf]; simp
      have f0m := List.mem_filter.mp f0in
      obtain ⟨a, i, hf0⟩ := hr f0 f0m.1
      have hi : i = T[s.length].1 := by have := f0m.2; subst hf0; exact of_decide_eq_true this
      subst hf0
      have tlen : T.length < sizeLine := by
        have : (T.map (·.1)).length = (ks rows).length := by rw [g.keys]
        have := ks_len rows
        simp only [List.length_map] at *
        omega
      obtain ⟨G1, e⟩ := group_out n ((h ++ Ob.frz (Ob.dt (kvT T)) :: G) ++ Ob.lst ((T.take s.length).map fun t => grow rows t.1) :: G') r m h.length (h ++ Ob.dt (kvT T) :: G).length p v w x y T[s.length].2 S W (ofK rows T[s.length].1) ((T.take s.length).map fun t => grow rows t.1) a i t0
        (by rw [List.append_assoc]; exact at_old er) b3 (by rw [len2]; exact at_newc _ _ _) hf (fun d hd => ro d (List.mem_filter.mp hd).1) (by simp only [List.length_map, List.length_take]; omega)
      refine ⟨_, _, _, by rw [hd]; rfl, e, ⟨_, _, rfl⟩, G' ++ G1, ?_⟩
      have tk : (T.take (s ++ [d]).length).map (fun t => grow rows t.1) = (T.take s.length).map (fun t => grow rows t.1) ++ [.tup [.int i, .int (ofK rows T[s.length].1).length]] := by
        rw [List.length_append, List.length_singleton, List.take_succ, List.getElem?_eq_getElem lt, List.map_append]
        subst hi
        rfl
      rw [tk, List.append_assoc, List.cons_append, len2, set_new])
    ((kvT T).map (·.2)).length [] ((kvT T).map (·.2)) (envH r (planG p) m h.length (h ++ Ob.dt (kvT T) :: G).length v w none none) ((h ++ Ob.frz (Ob.dt (kvT T)) :: G) ++ [Ob.lst []]) rfl rfl ⟨⟨_, _, rfl⟩, [], rfl⟩
  have out : (T.take ((kvT T).map (·.2)).length).map (fun t => grow rows t.1) = (ks rows).map (grow rows) := by
    rw [← g.keys]
    simp only [kvT, List.length_map, List.take_length, List.map_map]
    rfl
  rw [out] at e5
  have e6 : evS (FN (n + 5)) pg.above WF (.forV (.nm 7) 3 (.cons (.asg (.tg (.nm 8)) (.ite (.cmp .NotEq (.var 7) (.lst .nil)) (.idx (.var 7) (.int 0)) (.tup .nil)))
 (.cons (.ifs (.or (.cmp .Is (.idx (.var 1) (.int 3)) .non) (.cmp .Is (.meth (.var 0) "value" (.cons (.idx (.var 1) (.int 3)) (.cons (.var 8) (.cons (.var 7) .nil)))) (.bl true)))
 (.cons (.expr (.bm .append (.var 6) (.cons (.blt .tuple (.cons (.comp true (.nm 10) (.val (.idx (.var 1) (.int 2))) .yes (.meth (.var 0) "value" (.cons (.var 10) (.cons (.var 8) (.cons (.var 7) .nil))))) .nil)) .nil)))
 .nil)
 .nil)
 .nil))) (envH r (planG p) m h.length (h ++ Ob.dt (kvT T) :: G).length v w none none) ((h ++ Ob.dt (kvT T) :: G) ++ [Ob.lst []]) = some (.nx (envH r (planG p) m h.length (h ++ Ob.dt (kvT T) :: G).length v w x y) ((h ++ Ob.dt (kvT T) :: G) ++ Ob.lst ((ks rows).map (grow rows)) :: G')) := by
    rw [qS_forV, show getVar (envH r (planG p) m h.length (h ++ Ob.dt (kvT T) :: G).length v w none none) 3 = some (.ref h.length) from rfl]
    simp only [show ((h ++ Ob.dt (kvT T) :: G) ++ [Ob.lst []])[h.length]? = some (Ob.dt (kvT T)) by rw [List.append_assoc]; exact at_newc _ _ _]
    rw [hz, show (kvT T).length = ((kvT T).map (·.2)).length by simp]
    simp only [List.length_nil] at e5
    rw [e5]
    simp only [Option.bind, unlockS, unlock]
    rw [show ((h ++ Ob.frz (Ob.dt (kvT T)) :: G) ++ Ob.lst ((ks rows).map (grow rows)) :: G')[h.length]? = some (Ob.frz (Ob.dt (kvT T))) by rw [List.append_assoc]; exact at_newc _ _ _]
    simp only [Option.map, List.append_assoc, List.cons_append, set_new]
  have e7 : evSs (FN (n + 5)) pg.above WF m_Runner_groups.body (startEn m_Runner_groups [.ref r, planG p, .ref m]) h = some (.ret (.ref (h ++ Ob.dt (kvT T) :: G).length) ((h ++ Ob.dt (kvT T) :: G) ++ Ob.lst ((ks rows).map (grow rows)) :: G')) :=
    (ss_nx e1).trans ((ss_nx e2).trans ((skip e3).trans ((ss_nx e4).trans ((ss_nx e6).trans (ret_ev (ev_var rfl))))))
  rw [run_ret (d := m_Runner_groups) rfl e7]
  rw [List.append_assoc, List.length_append, List.cons_append]
  refine congrArg some (gc_list h (Ob.dt (kvT T) :: (G ++ Ob.lst ((ks rows).map (grow rows)) :: G')) (Ob.dt (kvT T) :: G).length _ ?_ (noRefs_of fun d hd => ?_))
  · rw [← List.cons_append]; simp
  · obtain ⟨i, -, rfl⟩ := List.mem_map.mp hd
    rfl
end Pl

set_option Elab.async false
set_option linter.all false
set_option maxRecDepth 100000
set_option autoImplicit false
set_option maxHeartbeats 0
/-! Pl34: what the drawn plans come to: outer, group. -/
namespace Pl
open PySem Ev PK Qe
/-- rows of an id and an integer, as data -/
def RowS (d : D) : Prop := ∃ s i, d = .tup [.str s, .int i] ∧ PyData.strOk s = true
theorem RowS.two {d : D} (r : RowS d) : Row2 d := by obtain ⟨s, i, rfl, -⟩ := r; exact ⟨s, i, rfl⟩
theorem RowS.ok {d : D} (r : RowS d) : rowOk d = true := by obtain ⟨s, i, rfl, h⟩ := r; simp [rowOk, cellOk, h]
theorem RowS.add {d e : D} (r : RowS d) (q : RowS e) : rowOk (addT d e) = true := by
  obtain ⟨s, i, rfl, h⟩ := r
  obtain ⟨t, j, rfl, h'⟩ := q
  simp [rowOk, cellOk, addT, h, h']
theorem RowS.addN {d : D} (r : RowS d) : rowOk (addT d nn) = true := by
  obtain ⟨s, i, rfl, h⟩ := r
  simp [rowOk, cellOk, addT, nn, h]
theorem pairs_ok {A B : List D} {P : D → D → Bool} (ra : ∀ d ∈ A, RowS d) (rb : ∀ d ∈ B, RowS d) : ∀ d ∈ pairsP A B P, rowOk d = true := fun d hd => by
  simp only [pairsP, List.mem_flatMap, List.mem_map, List.mem_filter] at hd
  obtain ⟨p, hp, q, ⟨hq, -⟩, rfl⟩ := hd
  exact (ra p hp).add (rb q hq)
theorem outers_ok {A B : List D} {P : D → D → Bool} (ra : ∀ d ∈ A, RowS d) (rb : ∀ d ∈ B, RowS d) : ∀ d ∈ outersP A B P, rowOk d = true := fun d hd => by
  simp only [outersP, List.mem_flatMap, outR] at hd
  obtain ⟨p, hp, hd⟩ := hd
  by_cases z : (B.filter (P p)).isEmpty
  · rw [if_pos z] at hd
    simp at hd; subst hd
    exact (ra p hp).addN
  · rw [if_neg z] at hd
    simp only [List.mem_map, List.mem_filter] at hd
    obtain ⟨q, ⟨hq, -⟩, rfl⟩ := hd
    exact (ra p hp).add (rb q hq)
theorem outR_len (B : List D) (P : D → D → Bool) (p : D) : (outR B P p).length ≤ B.length + 1 := by
  unfold outR
  have := List.length_filter_le (P p) B
  by_cases z : (B.filter (P p)).isEmpty
  · rw [if_pos z]; simp
  · rw [if_neg z, List.length_map]; omega
theorem outers_len (A B : List D) (P : D → D → Bool) : (outersP A B P).length ≤ A.length * (B.length + 1) := by
  induction A with
  | nil => simp [outersP]
  | cons a A ih =>
    have l := outR_len B P a
    have : outersP (a :: A) B P = outR B P a ++ outersP A B P := rfl
    rw [this, List.length_append, List.length_cons, Nat.succ_mul]
    omega
structure HereC (r S W s1 s2 l1 l2 c2 : Nat) (f1 f2 : List (Str × D)) (A B : List D) (h : Hb) : Prop where
  here : Here r S W s1 s2 l1 l2 f1 f2 A B h
  colsF : f2.lookup ("columns" : Str) = some (D.ref c2)
  cols : h[c2]? = some (.lst [.str "id", .str "a"])
variable {r S W s1 s2 l1 l2 c2 : Nat} {f1 f2 : List (Str × D)} {A B : List D}
theorem hereC_wd : Wd (HereC r S W s1 s2 l1 l2 c2 f1 f2 A B) r S W := ⟨fun h g i => ⟨here_wd.app h g i.here, i.colsF, at_old i.cols⟩, fun h i => i.here.run⟩
theorem Out.of {Inv Inv' : Hb → Prop} {k : Nat} {p : D} {o : Option (List D)} (f : ∀ h, Inv' h → Inv h) (a : Out Inv r k p o) : Out Inv' r k p o := fun n h i => a n h (f h i)
def outerP : D := .tup [.str "outer", condEq, scanA, scanB]
theorem joined_outer (n : Nat) (h : Hb) (r m1 m2 S W : Nat) (rest : List D) (xs : List D) (er : h[r]? = some (rnr S W)) (ho : (FN n).run "Runner" "outer" [.ref r, .tup (.str "outer" :: rest), .ref m1, .ref m2] h = some (.ok (.ref h.length) (h ++ [.lst xs]))) :
    (FN (n + 1)).run "Runner" "joined" [.ref r, .tup (.str "outer" :: rest), .ref m1, .ref m2] h = some (.ok (.ref h.length) (h ++ [.lst xs])) := by
  rw [run_of k_joined]
  have ev : evE (FN n) (.meth (.var 0) "outer" (.cons (.var 1) (.cons (.var 2) (.cons (.var 3) .nil)))) [some (.ref r), some (.tup (.str "outer" :: rest)), some (.ref m1), some (.ref m2), none, none, none, none] h = some (.ok (.ref h.length) (h ++ [.lst xs])) := by
    rw [ev_meth (r := r) rfl er (by intro fs e; cases e; rfl) has_outer (evL3 (ev_var (d := .tup (.str "outer" :: rest)) rfl) (ev_var (d := .ref m1) rfl) (ev_var (d := .ref m2) rfl)), ho]
  have e3 : evSs (FN n) pg.above WF m_Runner_joined.body (startEn m_Runner_joined [.ref r, .tup (.str "outer" :: rest), .ref m1, .ref m2]) h = _ :=
    (skip (wordF rfl (by decide))).trans ((skip (wordF rfl (by decide))).trans ((skip (wordF rfl (by decide))).trans (hit (wordT rfl) (ret_ev ev))))
  rw [run_ret (d := m_Runner_joined) rfl e3]
  exact congrArg some (gc_list0 h _)
theorem outers_small (P : D → D → Bool) (la : A.length ≤ 2000) (lb : B.length ≤ 2000) : (outersP A B P).length ≤ sizeLine := by
  have := outers_len A B P
  have := Nat.mul_le_mul la (show B.length + 1 ≤ 2001 by omega)
  rw [sizeLine_eq']; omega
theorem out_outer (ra : ∀ d ∈ A, RowS d) (rb : ∀ d ∈ B, RowS d) (la : A.length ≤ 2000) (lb : B.length ≤ 2000) : Out (HereC r S W s1 s2 l1 l2 c2 f1 f2 A B) r 10 outerP (lim (outersP A B eqC)) := by
  have sc := scans (r := r) (S := S) (W := W) (s1 := s1) (s2 := s2) (l1 := l1) (l2 := l2) (f1 := f1) (f2 := f2) (fun d hd => (ra d hd).two) (fun d hd => (rb d hd).two) la lb 6
  refine out2 hereC_wd ((below_join "outer" condEq (fun h => part_word h _ _) (by decide)).up 7) (sc.1.of fun h i => i.here) (sc.2.of fun h i => i.here) (rowsOk_noRefs (outers_ok ra rb)) fun n h m m1 m2 i hm h1 h2 => ?_
  refine made_joined (n + 8) h r m m1 m2 S W _ _ _ i.here.run hm (by decide) (by decide) (by decide) (by decide) (by decide) (by decide) (joined_outer (n + 7) h r m1 m2 S W _ _ i.here.run ?_) (.inl ⟨_, rfl⟩)
  exact outer_run (n + 5) h r m1 m2 S W condEq scanA scanB A B eqC i.here.run h1 h2 (fun d hd => (ra d hd).two.tup) (fun d hd => (rb d hd).two.tup)
    (fun G => by
      have := width_scan (n + 5) (h ++ G) S s2 c2 "s0_b" [] _ _ f2 _ (at_old i.here.dict) (by rfl) (at_old i.here.two) i.colsF (at_old i.cols)
      exact this)
    (fun p hp q hq H er => by
      obtain ⟨s, x, rfl⟩ := (ra p hp).two
      obtain ⟨t, y, rfl⟩ := (rb q hq).two
      exact holds_eq n H r S W er _ _ x y)
    (fun p hp q hq => (ra p hp).add (rb q hq)) (rowsOk_noRefs (outers_ok ra rb)) (outers_small eqC la lb)
/-- the exception out of the first part of two -/
theorem parts2x {n : Nat} {h : Hb} {r S W : Nat} {plan p q : D} (er : h[r]? = some (rnr S W)) (hb : (FN n).run Str.empty "below" [plan] h = some (.ok (.ref h.length) (h ++ [.lst [p, q]])))
    (hp : (FN n).run "Runner" "rows" [.ref r, p] (h ++ [.lst [p, q]]) = some (.exc "NoPlan" [] (h ++ [.lst [p, q]]))) :
    evE (FN n) partsE [some (.ref r), some plan, none, none] h = some (.exc "NoPlan" [] (h ++ [.lst [p, q]])) := by
  rw [parts_start hb (loop_exc (d := p) (by rw [at_lst (by rw [at_new0]; rfl)]; rfl) rfl qT_yes (ev_rows (at_old er) hp)), bnd_exc]
theorem out2p {Inv : Hb → Prop} {r S W k : Nat} {plan p q : D} (w : Wd Inv r S W) (hb : Below k plan [p, q]) (hp : Out Inv r k p none) : Out Inv r (k + 1) plan none := fun n h i => by
  have hm' : (fnN pg WF (n + k)).has "Runner" "made" = true := by cases (n + k) <;> exact has_made
  refine rows_x (n := n + k) (g := [.lst [p, q]]) ?_
  rw [qE_meth, ev_var (d := .ref r) rfl]
  simp only [noX, bnd_ok, w.run h i, rnr]
  rw [if_pos ⟨rfl, hm'⟩, qL_cons, ev_var (d := plan) rfl, bnd_ok, qL_cons, parts2x (w.run h i) (hb n h) (hp n _ (w.app h _ i))]
  simp only [bnd_exc]
def allAll : D := .tup [.str "all", allP, scanA]
theorem below_allAll : Below 2 allAll [allP, scanA] := below_of _ _ _ (fun h => by rfl) (by decide) (fun h d hd => by
  simp at hd; rcases hd with rfl | rfl
  · exact part_word h _ _
  · exact part_word h _ _) rfl rfl
theorem out_allAll (ra : ∀ d ∈ A, RowS d) (rb : ∀ d ∈ B, RowS d) (la : A.length ≤ 2000) (lb : B.length ≤ 2000) : Out (Here r S W s1 s2 l1 l2 f1 f2 A B) r 5 allAll (lim ((A ++ B) ++ A)) := by
  have oa := out_all (r := r) (S := S) (W := W) (s1 := s1) (s2 := s2) (l1 := l1) (l2 := l2) (f1 := f1) (f2 := f2) (fun d hd => (ra d hd).two) (fun d hd => (rb d hd).two) la lb
  have sc := scans (r := r) (S := S) (W := W) (s1 := s1) (s2 := s2) (l1 := l1) (l2 := l2) (f1 := f1) (f2 := f2) (fun d hd => (ra d hd).two) (fun d hd => (rb d hd).two) la lb 1
  by_cases big : 2000 < (A ++ B).length
  · rw [lim_no big] at oa
    rw [lim_no (by rw [List.length_append]; omega)]
    exact out2p here_wd (below_allAll.up 2) oa
  · rw [lim_ok (by omega)] at oa
    exact out2 here_wd (below_allAll.up 2) oa sc.1 (rowsOk_noRefs fun d hd => by
      rcases List.mem_append.mp hd with hd | hd
      · rcases List.mem_append.mp hd with hd | hd
        · exact (ra d hd).ok
        · exact (rb d hd).ok
      · exact (ra d hd).ok) fun n h m m1 m2 i hm h1 h2 => made_joined (n + 3) h r m m1 m2 S W _ _ _ i.run hm (by decide) (by decide) (by decide) (by decide) (by decide) (by decide)
      (joined_all (n + 2) h r m1 m2 (A ++ B) A _ h1 h2 (by rw [sizeLine_eq']; omega)) (.inl ⟨_, rfl⟩)
theorem made_group (n : Nat) (h : Hb) (r m m1 S W : Nat) (p : D) (rows : List D) (er : h[r]? = some (rnr S W)) (hm : h[m]? = some (.lst [.ref m1])) (h1 : h[m1]? = some (.lst rows)) (hr : ∀ d ∈ rows, ∃ x i, d = .tup [x, .int i]) (ro : ∀ d ∈ rows, rowOk d = true) (hl : rows.length < sizeLine) :
    (FN (n + 7)).run "Runner" "made" [.ref r, planG p, .ref m] h = some (.ok (.ref h.length) (h ++ [.lst ((ks rows).map (grow rows))])) := by
  rw [run_of k_made]
  have ev : evE (FN (n + 6)) (.meth (.var 0) "groups" (.cons (.var 1) (.cons (.idx (.var 2) (.int 0)) .nil))) [some (.ref r), some (planG p), some (.ref m), none, none] h = some (.ok (.ref h.length) (h ++ [.lst ((ks rows).map (grow rows))])) := by
    rw [ev_meth (r := r) rfl er (by intro fs e; cases e; rfl) has_groups (evL2 (ev_var (d := planG p) rfl) (ev_idx (e := .ref m1) (d := .ref m) rfl (by simp [idxD, hm, ix_0])))]
    exact groups_run n h r m1 S W p rows er h1 hr ro hl
  have e3 : evSs (FN (n + 6)) pg.above WF m_Runner_made.body (startEn m_Runner_made [.ref r, planG p, .ref m]) h = _ :=
    (skip (wordF rfl (by decide))).trans ((skip (wordF rfl (by decide))).trans ((skip (wordF rfl (by decide))).trans ((skip (wordF rfl (by decide))).trans ((skip (wordF rfl (by decide))).trans (hit (wordT rfl) (ret_ev ev))))))
  rw [run_ret (d := m_Runner_made) rfl e3]
  exact congrArg some (gc_list0 h _)
def groupP : D := planG allAll
theorem below_group : Below 2 groupP [allAll] := below_of _ _ _ (fun h => slc_of (by rfl)) (by simp) (fun h d hd => by
  simp only [List.mem_cons, List.not_mem_nil, or_false] at hd
  rcases hd with rfl | rfl | rfl | rfl
  · exact part_int h _ _
  · exact part_col h _
  · exact part_non h
  · exact part_word h _ _) (by decide +kernel) (by decide +kernel)
theorem grow_ok (s : List D) (i : Int) : rowOk (grow s i) = true := by simp [grow, rowOk, cellOk]
theorem out_group (ra : ∀ d ∈ A, RowS d) (rb : ∀ d ∈ B, RowS d) (la : A.length ≤ 2000) (lb : B.length ≤ 2000) : Out (Here r S W s1 s2 l1 l2 f1 f2 A B) r 8 groupP (if 2000 < ((A ++ B) ++ A).length then none else some ((ks ((A ++ B) ++ A)).map (grow ((A ++ B) ++ A)))) := by
  have oa := (out_allAll (r := r) (S := S) (W := W) (s1 := s1) (s2 := s2) (l1 := l1) (l2 := l2) (f1 := f1) (f2 := f2) ra rb la lb).up 2
  by_cases big : 2000 < ((A ++ B) ++ A).length
  · rw [lim_no big] at oa
    rw [if_pos big]
    exact out1x here_wd (below_group.up 5) oa
  · rw [lim_ok (by omega)] at oa
    rw [if_neg big]
    have ro : ∀ d ∈ (A ++ B) ++ A, RowS d := fun d hd => by
      rcases List.mem_append.mp hd with hd | hd
      · rcases List.mem_append.mp hd with hd | hd
        · exact ra d hd
        · exact rb d hd
      · exact ra d hd
    have := out1 (rows := (ks ((A ++ B) ++ A)).map (grow ((A ++ B) ++ A))) here_wd (below_group.up 5) oa (rowsOk_noRefs fun d hd => by
      obtain ⟨i, -, rfl⟩ := List.mem_map.mp hd
      exact grow_ok _ _) fun n h m m1 i hm h1 => made_group n h r m m1 S W allAll _ i.run hm h1 (fun d hd => by obtain ⟨s, i, rfl, -⟩ := ro d hd; exact ⟨_, _, rfl⟩) (fun d hd => (ro d hd).ok) (by rw [sizeLine_eq']; omega)
    rw [lim_ok (by rw [List.length_map]; have := ks_len ((A ++ B) ++ A); omega)] at this
    exact this
end Pl

set_option Elab.async false
set_option linter.all false
set_option maxRecDepth 100000
set_option autoImplicit false
set_option maxHeartbeats 0
/-! Pl35: what each drawn plan comes to, in one. -/
namespace Pl
open PySem Ev PK Qe
inductive Pk where
  | cross | keep | jlit (x : D) | jeq | mat | out | all | dist | grp
def matP : D := .tup [.str "match", .tup [.tup [.int 1, .int 3]], scanA, scanB]
def Pk.plan : Pk → D
  | .cross => crossP
  | .keep => keepP
  | .jlit x => joinP (.tup [.str "literal", x])
  | .jeq => joinP condEq
  | .mat => matP
  | .out => outerP
  | .all => allP
  | .dist => distP pickP
  | .grp => groupP
def pairsT (A B : List D) : List D := pairsP A B fun _ _ => true
def Pk.rows (A B : List D) : Pk → List D
  | .cross => pairsT A B
  | .keep => []
  | .jlit x => pairsP A B fun _ _ => isT x
  | .jeq => pairsP A B eqC
  | .mat => pairsP A B eqC
  | .out => outersP A B eqC
  | .all => A ++ B
  | .dist => nub ((pairsT A B).map fun d => .tup [cell1 d])
  | .grp => (ks ((A ++ B) ++ A)).map (grow ((A ++ B) ++ A))
def Pk.most (A B : List D) : Pk → Nat
  | .cross => A.length * B.length
  | .keep => A.length * B.length
  | .jlit x => if isT x then A.length * B.length else 0
  | .jeq => (pairsP A B eqC).length
  | .mat => (pairsP A B eqC).length
  | .out => (outersP A B eqC).length
  | .all => A.length + B.length
  | .dist => A.length * B.length
  | .grp => 2 * A.length + B.length
def Pk.fit : Pk → Prop
  | .jlit x => (∃ b, x = .bl b) ∨ x = .non
  | _ => True
def due (o : Prop) [Decidable o] (rows : List D) : Option (List D) := if o then some rows else none
variable {r S W s1 s2 l1 l2 c2 : Nat} {f1 f2 : List (Str × D)} {A B : List D}
theorem lim_due {rows : List D} {k : Nat} (e : rows.length = k) : lim rows = due (k ≤ 2000) rows := by
  subst e
  unfold lim due
  by_cases b : rows.length ≤ 2000
  · rw [if_pos b, if_neg (by omega)]
  · rw [if_neg b, if_pos (by omega)]
theorem if_due {rows : List D} {k : Nat} : (if 2000 < k then none else some rows) = due (k ≤ 2000) rows := by
  unfold due
  by_cases b : k ≤ 2000
  · rw [if_pos b, if_neg (by omega)]
  · rw [if_neg b, if_pos (by omega)]
theorem Out.cast {Inv : Hb → Prop} {k j : Nat} {p : D} {o : Option (List D)} (a : Out Inv r k p o) (e : k = j) : Out Inv r j p o := e ▸ a
theorem Out.to {Inv : Hb → Prop} {k j : Nat} {p : D} {o : Option (List D)} (a : Out Inv r k p o) (e : k ≤ j) : Out Inv r j p o := (a.up (j - k)).cast (by omega)
theorem pairs_false (A B : List D) : (pairsP A B fun _ _ => false) = [] := by
  simp [pairsP]
theorem pick_ok (ra : ∀ d ∈ A, RowS d) (rb : ∀ d ∈ B, RowS d) : ∀ d ∈ (pairsT A B).map fun d => .tup [cell1 d], rowOk d = true := fun d hd => by
  obtain ⟨x, hx, rfl⟩ := List.mem_map.mp hd
  obtain ⟨s, i, t, j, rfl⟩ := pairs_row4 (fun d hd => (ra d hd).two) (fun d hd => (rb d hd).two) x hx
  simp [cell1, rowOk, cellOk]
theorem out_pk (k : Pk) (hk : k.fit) (ra : ∀ d ∈ A, RowS d) (rb : ∀ d ∈ B, RowS d) (la : A.length ≤ 2000) (lb : B.length ≤ 2000) :
    Out (HereC r S W s1 s2 l1 l2 c2 f1 f2 A B) r 20 k.plan (due (k.most A B ≤ 2000) (k.rows A B)) := by
  have ra' : ∀ d ∈ A, Row2 d := fun d hd => (ra d hd).two
  have rb' : ∀ d ∈ B, Row2 d := fun d hd => (rb d hd).two
  cases k with
  | cross =>
    have := (out_cross (r := r) (S := S) (W := W) (s1 := s1) (s2 := s2) (l1 := l1) (l2 := l2) (f1 := f1) (f2 := f2) ra' rb' la lb).to (j := 20) (by omega)
    rw [lim_due (pairs_all_length A B)] at this
    exact this.of fun h i => i.here
  | keep =>
    have := (out_keep (r := r) (S := S) (W := W) (s1 := s1) (s2 := s2) (l1 := l1) (l2 := l2) (f1 := f1) (f2 := f2) ra' rb' la lb).to (j := 20) (by omega)
    rw [if_due] at this
    exact this.of fun h i => i.here
  | jlit x =>
    have := (out_joinLit (r := r) (S := S) (W := W) (s1 := s1) (s2 := s2) (l1 := l1) (l2 := l2) (f1 := f1) (f2 := f2) x hk ra' rb' la lb).to (j := 20) (by omega)
    have e : (pairsP A B fun _ _ => isT x).length = Pk.most A B (.jlit x) := by
      show _ = if isT x = true then A.length * B.length else 0
      cases isT x
      · rw [pairs_false]; rfl
      · rw [pairs_all_length]; rfl
    rw [lim_due e] at this
    exact this.of fun h i => i.here
  | jeq =>
    have := (out_joinEq (r := r) (S := S) (W := W) (s1 := s1) (s2 := s2) (l1 := l1) (l2 := l2) (f1 := f1) (f2 := f2) ra' rb' la lb).to (j := 20) (by omega)
    rw [lim_due rfl] at this
    exact this.of fun h i => i.here
  | mat =>
    have := (out_match (r := r) (S := S) (W := W) (s1 := s1) (s2 := s2) (l1 := l1) (l2 := l2) (f1 := f1) (f2 := f2) eqC ra' rb' la lb).to (j := 20) (by omega)
    rw [lim_due rfl] at this
    exact this.of fun h i => i.here
  | out =>
    have := (out_outer (r := r) (S := S) (W := W) (s1 := s1) (s2 := s2) (l1 := l1) (l2 := l2) (c2 := c2) (f1 := f1) (f2 := f2) ra rb la lb).to (j := 20) (by omega)
    rw [lim_due rfl] at this
    exact this
  | all =>
    have := (out_all (r := r) (S := S) (W := W) (s1 := s1) (s2 := s2) (l1 := l1) (l2 := l2) (f1 := f1) (f2 := f2) ra' rb' la lb).to (j := 20) (by omega)
    rw [lim_due (List.length_append)] at this
    exact this.of fun h i => i.here
  | dist =>
    have o := out_pick (r := r) (S := S) (W := W) (s1 := s1) (s2 := s2) (l1 := l1) (l2 := l2) (f1 := f1) (f2 := f2) ra' rb' la lb
    have := (out_distinct here_wd (by rfl) (by rfl) (fun A' e => by
      by_cases b : 2000 < A.length * B.length
      · rw [if_pos b] at e; cases e
      · rw [if_neg b] at e
        have e := Option.some.inj e
        subst e
        exact ⟨pick_ok ra rb, by rw [List.length_map, pairs_all_length]; omega⟩) o).to (j := 20) (by omega)
    have e2 : (if 2000 < A.length * B.length then none else some ((pairsP A B fun _ _ => true).map fun d => D.tup [cell1 d])).map nub = due (A.length * B.length ≤ 2000) (Pk.rows A B .dist) := by
      unfold due
      by_cases b : 2000 < A.length * B.length
      · rw [if_pos b, if_neg (by omega)]; rfl
      · rw [if_neg b, if_pos (by omega)]; rfl
    rw [e2] at this
    exact this.of fun h i => i.here
  | grp =>
    have := (out_group (r := r) (S := S) (W := W) (s1 := s1) (s2 := s2) (l1 := l1) (l2 := l2) (f1 := f1) (f2 := f2) ra rb la lb).to (j := 20) (by omega)
    rw [if_due, show ((A ++ B) ++ A).length = 2 * A.length + B.length by simp only [List.length_append]; omega] at this
    exact this.of fun h i => i.here
theorem good_pk (k : Pk) (ra : ∀ d ∈ A, RowS d) (rb : ∀ d ∈ B, RowS d) : Good (due (k.most A B ≤ 2000) (k.rows A B)) := fun C e => by
  unfold due at e
  by_cases b : k.most A B ≤ 2000
  · rw [if_pos b] at e
    have e := Option.some.inj e
    subst e
    cases k with
    | cross => exact ⟨pairs_ok ra rb, by show (pairsT A B).length ≤ 2000; rw [pairsT, pairs_all_length]; exact b⟩
    | keep => exact ⟨fun d hd => absurd hd (List.not_mem_nil), by show ([] : List D).length ≤ _; simp⟩
    | jlit x =>
      refine ⟨pairs_ok ra rb, ?_⟩
      show (pairsP A B fun _ _ => isT x).length ≤ _
      have b' : (if isT x = true then A.length * B.length else 0) ≤ 2000 := b
      cases hx : isT x
      · rw [pairs_false]; simp
      · rw [hx] at b'
        rw [pairs_all_length]; exact b'
    | jeq => exact ⟨pairs_ok ra rb, b⟩
    | mat => exact ⟨pairs_ok ra rb, b⟩
    | out => exact ⟨outers_ok ra rb, b⟩
    | all => exact ⟨fun d hd => (List.mem_append.mp hd).elim (fun m => (ra d m).ok) fun m => (rb d m).ok, by show (A ++ B).length ≤ _; rw [List.length_append]; exact b⟩
    | dist =>
      refine ⟨fun d hd => pick_ok ra rb d (nub_mem.mp hd), Nat.le_trans (nub_len _) ?_⟩
      rw [List.length_map, pairsT, pairs_all_length]; exact b
    | grp =>
      refine ⟨fun d hd => by obtain ⟨i, -, rfl⟩ := List.mem_map.mp hd; exact grow_ok _ _, ?_⟩
      have b' : 2 * A.length + B.length ≤ 2000 := b
      have := ks_len ((A ++ B) ++ A)
      show ((ks ((A ++ B) ++ A)).map (grow ((A ++ B) ++ A))).length ≤ _
      simp only [List.length_map, List.length_append] at *
      omega
  · rw [if_neg b] at e; cases e
end Pl

set_option Elab.async false
set_option linter.all false
set_option maxRecDepth 100000
set_option autoImplicit false
set_option maxHeartbeats 0
/-! Pl36: the law's draws. -/
namespace Pl
open PySem Ev PK Qe
theorem k_next : keys.lookup (Str.empty, ("_law_next" : Str)) = some fUlaw_next := by rfl
abbrev stO (sc : Nat) (p z s : Int) : Ob := .lst [.ref sc, .int p, .int z, .int s]
/-- the state of the draws -/
def St (sc st : Nat) (ns : List Int) (h : Hb) : Prop := sc ≠ st ∧ h[sc]? = some (.lst (ns.map .int)) ∧ ∃ p z s, 0 ≤ p ∧ h[st]? = some (stO sc p z s)
theorem St.app {sc st : Nat} {ns : List Int} {h : Hb} (i : St sc st ns h) (g : Hb) : St sc st ns (h ++ g) := by
  obtain ⟨ne, a, p, z, s, hp, b⟩ := i
  exact ⟨ne, at_old a, p, z, s, hp, at_old b⟩
theorem st_ix {F : Fn} {ρ : En} {h : Hb} {st sc : Nat} {p z s : Int} (h0 : getVar ρ 0 = some (.ref st)) (e : h[st]? = some (stO sc p z s)) :
    evE F (.idx (.var 0) (.int 0)) ρ h = some (.ok (.ref sc) h) ∧ evE F (.idx (.var 0) (.int 1)) ρ h = some (.ok (.int p) h) ∧ evE F (.idx (.var 0) (.int 2)) ρ h = some (.ok (.int z) h) ∧ evE F (.idx (.var 0) (.int 3)) ρ h = some (.ok (.int s) h) :=
  ⟨ev_idx h0 (by simp [idxD, e, ix_0]), ev_idx h0 (by simp [idxD, e, ix_1]), ev_idx h0 (by simp [idxD, e, ix_2]), ev_idx h0 (by simp [idxD, e, ix_3])⟩
theorem st_put {h : Hb} {st sc : Nat} {p z s : Int} (e : h[st]? = some (stO sc p z s)) (v : Int) :
    putSub h (.ref st) (.int 1) (.int v) = some (h.set st (stO sc v z s)) ∧ putSub h (.ref st) (.int 2) (.int v) = some (h.set st (stO sc p v s)) ∧ putSub h (.ref st) (.int 3) (.int v) = some (h.set st (stO sc p z v)) := by
  refine ⟨?_, ?_, ?_⟩ <;> simp only [putSub, e] <;> rfl
theorem set_at {h : Hb} {n : Nat} {o o' : Ob} (e : h[n]? = some o) : (h.set n o')[n]? = some o' := List.getElem?_set_self (List.getElem?_eq_some_iff.mp e).1
theorem set_ne {h : Hb} {n m : Nat} {o : Ob} (ne : m ≠ n) : (h.set n o)[m]? = h[m]? := List.getElem?_set_ne (fun e => ne e.symm)
theorem next_take (n : Nat) (h : Hb) (sc st : Nat) (ns : List Int) (L : Int) (p z s : Int) (ne : sc ≠ st) (hs : h[sc]? = some (.lst (ns.map .int))) (hp : 0 ≤ p) (e : h[st]? = some (stO sc p z s)) :
    ∃ p' z' s' v, 0 ≤ p' ∧ evS (FN n) pg.above WF (.ifs (.and (.cmp .Eq (.idx (.var 0) (.int 2)) (.int 0)) (.cmp .Lt (.idx (.var 0) (.int 1)) (.blt .len (.cons (.idx (.var 0) (.int 0)) .nil))))
 (.cons (.asg (.tg (.nm 2)) (.idx (.idx (.var 0) (.int 0)) (.idx (.var 0) (.int 1))))
 (.cons (.augS (.var 0) (.int 1) .Add (.int 1))
 (.cons (.ifs (.cmp .GtE (.var 2) (.bin .Pow (.int 10) (.int 18)))
 (.cons (.asg (.sub (.var 0) (.int 2)) (.var 2))
 .nil)
 (.cons (.asg (.sub (.var 0) (.int 3)) (.bin .Mod (.blt .int (.cons (.bin .Add (.bin .Add (.bin .Mult (.idx (.var 0) (.int 3)) (.int 48271)) (.bin .Mod (.blt .int (.cons (.var 2) .nil)) (.int 2147483647))) (.int 7)) .nil)) (.int 2147483647)))
 .nil))
 .nil)))
 .nil) [some (.ref st), some (.int L), none, none] h = some (.nx [some (.ref st), some (.int L), v, none] (h.set st (stO sc p' z' s'))) := by
  have ix := st_ix (F := FN n) (ρ := [some (.ref st), some (.int L), none, none]) rfl e
  have el : evE (FN n) (.blt .len (.cons (.idx (.var 0) (.int 0)) .nil)) [some (.ref st), some (.int L), none, none] h = some (.ok (.int ns.length) h) := by
    rw [qE_blt, evL1 ix.1]
    simp [bnd_ok, bltD, items_of hs, nvRes]
  have c1 : evT (FN n) (.and (.cmp .Eq (.idx (.var 0) (.int 2)) (.int 0)) (.cmp .Lt (.idx (.var 0) (.int 1)) (.blt .len (.cons (.idx (.var 0) (.int 0)) .nil)))) [some (.ref st), some (.int L), none, none] h = some (.ok (decide (z = 0) && decide (p < (ns.length : Int))) h) := by
    rw [qT_and, qT_cmp, ix.2.2.1, bnd_ok, qE_int, bnd_ok]
    simp only [cmpD, eqD, scalar, and_self, if_true, scalEq, bnd_ok]
    by_cases hz : z = 0
    · simp only [hz, decide_true, Bool.true_and]
      rw [qT_cmp, ix.2.1, bnd_ok, el, bnd_ok]
      simp only [cmpD]
    · simp only [hz, decide_false, Bool.false_and]
  by_cases ht : (decide (z = 0) && decide (p < (ns.length : Int))) = true
  · rw [ht] at c1
    simp only [Bool.and_eq_true, decide_eq_true_eq] at ht
    obtain ⟨k, rfl⟩ : ∃ k : Nat, p = k := ⟨p.toNat, by omega⟩
    have kl : k < ns.length := by omega
    have e2 : evS (FN n) pg.above WF (.asg (.tg (.nm 2)) (.idx (.idx (.var 0) (.int 0)) (.idx (.var 0) (.int 1)))) [some (.ref st), some (.int L), none, none] h = some (.nx [some (.ref st), some (.int L), some (.int ns[k]), none] h) := by
      rw [qS_asg_tg, qE_idx, ix.1, bnd_ok, ix.2.1, bnd_ok]
      simp [idxD, hs, ix_nat, List.getElem?_eq_getElem kl, sB_ok, bindTg, setVar]
    have ix2 := st_ix (F := FN n) (ρ := [some (.ref st), some (.int L), some (.int ns[k]), none]) rfl e
    have e3 : evS (FN n) pg.above WF (.augS (.var 0) (.int 1) .Add (.int 1)) [some (.ref st), some (.int L), some (.int ns[k]), none] h = some (.nx [some (.ref st), some (.int L), some (.int ns[k]), none] (h.set st (stO sc (k + 1) z s))) := by
      rw [qS_augS, ev_var (d := .ref st) rfl, sB_ok, qE_int, sB_ok]
      simp only [nonNegIx, show decide ((0 : Int) ≤ 1) = true from rfl, if_true, show idxD h (.ref st) (.int 1) = some (.int k) by simp [idxD, e, ix_1], qE_int, sB_ok, augD, (st_put e _).1]
    have eh : (h.set st (stO sc (k + 1) z s))[st]? = some (stO sc (k + 1) z s) := set_at e
    have ix3 := st_ix (F := FN n) (ρ := [some (.ref st), some (.int L), some (.int ns[k]), none]) rfl eh
    have e4 : evT (FN n) (.cmp .GtE (.var 2) (.bin .Pow (.int 10) (.int 18))) [some (.ref st), some (.int L), some (.int ns[k]), none] (h.set st (stO sc (k + 1) z s)) = some (.ok (decide ((10 : Int) ^ 18 ≤ ns[k])) (h.set st (stO sc (k + 1) z s))) := by
      rw [qT_cmp, ev_var (d := .int ns[k]) rfl, bnd_ok, qE_bin, qE_int, bnd_ok, qE_int, bnd_ok]
      simp only [binD]
      rw [if_pos (by decide)]
      rfl
    by_cases big : (10 : Int) ^ 18 ≤ ns[k]
    · rw [decide_eq_true big] at e4
      refine ⟨k + 1, ns[k], s, some (.int ns[k]), by omega, ?_⟩
      have e5 : evS (FN n) pg.above WF (.asg (.sub (.var 0) (.int 2)) (.var 2)) [some (.ref st), some (.int L), some (.int ns[k]), none] (h.set st (stO sc (k + 1) z s)) = some (.nx [some (.ref st), some (.int L), some (.int ns[k]), none] (h.set st (stO sc (k + 1) ns[k] s))) := by
        rw [qS_asg_sub, ev_var (d := .int ns[k]) rfl, sB_ok, ev_var (d := .ref st) rfl, sB_ok, qE_int, sB_ok]
        simp only [(st_put eh _).2.1, List.set_set]
      exact (ifs_t c1).trans ((ss_nx e2).trans ((ss_nx e3).trans ((ss_nx ((ifs_t e4).trans ((ss_nx e5).trans qSs_nil))).trans qSs_nil)))
    · rw [decide_eq_false big] at e4
      refine ⟨k + 1, z, (s * 48271 + ns[k] % 2147483647 + 7) % 2147483647, some (.int ns[k]), by omega, ?_⟩
      have e5 : evS (FN n) pg.above WF (.asg (.sub (.var 0) (.int 3)) (.bin .Mod (.blt .int (.cons (.bin .Add (.bin .Add (.bin .Mult (.idx (.var 0) (.int 3)) (.int 48271)) (.bin .Mod (.blt .int (.cons (.var 2) .nil)) (.int 2147483647))) (.int 7)) .nil)) (.int 2147483647))) [some (.ref st), some (.int L), some (.int ns[k]), none] (h.set st (stO sc (k + 1) z s)) = some (.nx [some (.ref st), some (.int L), some (.int ns[k]), none] (h.set st (stO sc (k + 1) z ((s * 48271 + ns[k] % 2147483647 + 7) % 2147483647)))) := by
        rw [qS_asg_sub]
        simp only [qE_bin, qE_blt, qL_cons, qL_nil, ix3.2.2.2, qE_int, bnd_ok, binD, show small64 48271 = true from by decide, or_true, if_true, nvRes, ev_var (show getVar [some (D.ref st), some (.int L), some (.int ns[k]), none] 2 = some (.int ns[k]) from rfl), bltD, show (0 : Int) < 2147483647 from by decide, sB_ok, ev_var (show getVar [some (D.ref st), some (.int L), some (.int ns[k]), none] 0 = some (.ref st) from rfl), (st_put eh _).2.2, List.set_set]
      exact (ifs_t c1).trans ((ss_nx e2).trans ((ss_nx e3).trans ((ss_nx ((ifs_f e4).trans ((ss_nx e5).trans qSs_nil))).trans qSs_nil)))
  · rw [Bool.eq_false_iff.mpr ht] at c1
    exact ⟨p, z, s, none, hp, by rw [set_same e]; exact (ifs_f c1).trans qSs_nil⟩
/-- a draw -/
theorem next_run (n : Nat) (h : Hb) (sc st : Nat) (ns : List Int) (L : Int) (i : St sc st ns h) (l0 : 0 < L) (l1 : L < 1000) :
    ∃ v p z s, 0 ≤ v ∧ v < L ∧ 0 ≤ p ∧ (FN (n + 1)).run Str.empty "_law_next" [.ref st, .int L] h = some (.ok (.int v) (h.set st (stO sc p z s))) := by
  obtain ⟨ne, hs, p0, z0, s0, hp0, e0⟩ := i
  obtain ⟨p, z, s, v2, hp, e1⟩ := next_take n h sc st ns L p0 z0 s0 ne hs hp0 e0
  have e := set_at (o' := stO sc p z s) e0
  have ix := st_ix (F := FN n) (ρ := [some (.ref st), some (.int L), v2, none]) rfl e
  have gL : getVar [some (D.ref st), some (.int L), v2, none] 1 = some (.int L) := rfl
  have gS : getVar [some (D.ref st), some (.int L), v2, none] 0 = some (.ref st) := rfl
  have c1 : evT (FN n) (.cmp .Gt (.idx (.var 0) (.int 2)) (.int 0)) [some (.ref st), some (.int L), v2, none] (h.set st (stO sc p z s)) = some (.ok (decide (0 < z)) (h.set st (stO sc p z s))) := by
    rw [qT_cmp, ix.2.2.1, bnd_ok, qE_int, bnd_ok]
    simp only [cmpD]
  have fin : ∀ {v : Int} {o : Ob}, gc h.length h (.int v) (h.set st o) = .ok (.int v) (h.set st o) := fun {v o} => gc_len h _ _ rfl (by simp)
  by_cases hz : 0 < z
  · rw [decide_eq_true hz] at c1
    refine ⟨z % L, p, z / L, s, Int.emod_nonneg _ (by omega), Int.emod_lt_of_pos _ l0, hp, ?_⟩
    have e2 : evS (FN n) pg.above WF (.asg (.tg (.nm 3)) (.bin .Mod (.blt .int (.cons (.idx (.var 0) (.int 2)) .nil)) (.var 1))) [some (.ref st), some (.int L), v2, none] (h.set st (stO sc p z s)) = some (.nx [some (.ref st), some (.int L), v2, some (.int (z % L))] (h.set st (stO sc p z s))) := by
      rw [qS_asg_tg]
      simp only [qE_bin, qE_blt, qL_cons, qL_nil, ix.2.2.1, bnd_ok, bltD, nvRes, ev_var gL, binD, l0, if_true, sB_ok]
      rfl
    have ix2 := st_ix (F := FN n) (ρ := [some (.ref st), some (.int L), v2, some (.int (z % L))]) rfl e
    have e3 : evS (FN n) pg.above WF (.asg (.sub (.var 0) (.int 2)) (.bin .FloorDiv (.idx (.var 0) (.int 2)) (.var 1))) [some (.ref st), some (.int L), v2, some (.int (z % L))] (h.set st (stO sc p z s)) = some (.nx [some (.ref st), some (.int L), v2, some (.int (z % L))] (h.set st (stO sc p (z / L) s))) := by
      have gL : getVar [some (D.ref st), some (.int L), v2, some (.int (z % L))] 1 = some (.int L) := rfl
      have gS : getVar [some (D.ref st), some (.int L), v2, some (.int (z % L))] 0 = some (.ref st) := rfl
      rw [qS_asg_sub]
      simp only [qE_bin, ix2.2.2.1, bnd_ok, ev_var gL, ev_var gS, binD, l0, show L < 1073741824 by omega, and_self, if_true, nvRes, sB_ok, qE_int, (st_put e _).2.1, List.set_set]
    have e4 : evSs (FN n) pg.above WF fUlaw_next.body (startEn fUlaw_next [.ref st, .int L]) h = some (.ret (.int (z % L)) (h.set st (stO sc p (z / L) s))) :=
      (ss_nx e1).trans (hit c1 ((ss_nx e2).trans ((ss_nx e3).trans (ret_ev (ev_var rfl)))))
    rw [run_of k_next, run_ret (d := fUlaw_next) rfl e4]
    exact congrArg some fin
  · rw [decide_eq_false hz] at c1
    refine ⟨(s * 69621 + 12345) % 2147483647 / 7 % L, p, z, (s * 69621 + 12345) % 2147483647, Int.emod_nonneg _ (by omega), Int.emod_lt_of_pos _ l0, hp, ?_⟩
    have e2 : evS (FN n) pg.above WF (.asg (.sub (.var 0) (.int 3)) (.bin .Mod (.blt .int (.cons (.bin .Add (.bin .Mult (.idx (.var 0) (.int 3)) (.int 69621)) (.int 12345)) .nil)) (.int 2147483647))) [some (.ref st), some (.int L), v2, none] (h.set st (stO sc p z s)) = some (.nx [some (.ref st), some (.int L), v2, none] (h.set st (stO sc p z ((s * 69621 + 12345) % 2147483647)))) := by
      rw [qS_asg_sub]
      simp only [qE_bin, qE_blt, qL_cons, qL_nil, ix.2.2.2, bnd_ok, bltD, nvRes, qE_int, binD, show small64 69621 = true from by decide, or_true, if_true, show (0 : Int) < 2147483647 from by decide, sB_ok, ev_var gS, (st_put e _).2.2, List.set_set]
    have eh := set_at (o' := stO sc p z ((s * 69621 + 12345) % 2147483647)) e0
    have ix2 := st_ix (F := FN n) (ρ := [some (.ref st), some (.int L), v2, none]) rfl eh
    have e3 : evE (FN n) (.bin .Mod (.blt .int (.cons (.bin .FloorDiv (.idx (.var 0) (.int 3)) (.int 7)) .nil)) (.var 1)) [some (.ref st), some (.int L), v2, none] (h.set st (stO sc p z ((s * 69621 + 12345) % 2147483647))) = some (.ok (.int ((s * 69621 + 12345) % 2147483647 / 7 % L)) (h.set st (stO sc p z ((s * 69621 + 12345) % 2147483647)))) := by
      simp only [qE_bin, qE_blt, qL_cons, qL_nil, ix2.2.2.2, bnd_ok, bltD, nvRes, qE_int, ev_var gL, binD, l0, show (0 : Int) < 7 ∧ (7 : Int) < 1073741824 from by decide, and_self, if_true]
    have e4 : evSs (FN n) pg.above WF fUlaw_next.body (startEn fUlaw_next [.ref st, .int L]) h = some (.ret (.int ((s * 69621 + 12345) % 2147483647 / 7 % L)) (h.set st (stO sc p z ((s * 69621 + 12345) % 2147483647)))) :=
      (ss_nx e1).trans ((skip c1).trans ((ss_nx e2).trans (ret_ev e3)))
    rw [run_of k_next, run_ret (d := fUlaw_next) rfl e4]
    exact congrArg some fin
theorem St.set {sc st : Nat} {ns : List Int} {h : Hb} (i : St sc st ns h) {p z s : Int} (hp : 0 ≤ p) : St sc st ns (h.set st (stO sc p z s)) := by
  obtain ⟨ne, a, p0, z0, s0, -, b⟩ := i
  exact ⟨ne, by rw [set_ne ne]; exact a, p, z, s, hp, set_at b⟩
end Pl

set_option Elab.async false
set_option linter.all false
set_option maxRecDepth 100000
set_option autoImplicit false
set_option maxHeartbeats 0
/-! Pl37: the law's sources. -/
namespace Pl
open PySem Ev PK Qe
theorem k_source : keys.lookup (Str.empty, ("_law_source" : Str)) = some fUlaw_source := by rfl
theorem k_SourceI : keys.lookup (("Source" : Str), ("__init__" : Str)) = some m_SourceU_initU := by rfl
theorem num_len : ∀ k < 2001, (Str.ofString (toString ((k : Nat) + 1 : Int))).length ≤ 20 := by decide +kernel
theorem str_app_len (a b : Str) : (a ++ b).length = a.length + b.length := by
  show (a.cps ++ b.cps).size = _
  rw [Array.size_append]; rfl
theorem strOk_of (s : String) : PyData.strOk (Str.ofString s) = true := by
  rw [Str.ofString_eq_toList]
  unfold PyData.strOk
  rw [Array.all_eq_true']
  intro x hx
  simp at hx
  obtain ⟨c, -, rfl⟩ := hx
  have := c.valid
  simp only [decide_eq_true_eq]
  rcases this with h | h
  · exact Nat.lt_trans h (by decide)
  · exact h.2
theorem strOk_app {a b : Str} (ha : PyData.strOk a = true) (hb : PyData.strOk b = true) : PyData.strOk (a ++ b) = true := by
  unfold PyData.strOk at *
  show (a.cps ++ b.cps).all _ = true
  rw [Array.all_append, ha, hb]; rfl
/-- the name of a row -/
def idI (k : Int) : Str := (("0." : Str) ++ (Str.ofString (toString (k + 1)))) ++ (".0" : Str)
def rowI : D → D
  | .int k => .tup [.str (idI k), .int (k % 2)]
  | d => d
def numsN (f : Nat) : List D := (List.range f).map fun (k : Nat) => D.int (k : Int)
def rowsN (f : Nat) : List D := (numsN f).map rowI
theorem rowsN_len (f : Nat) : (rowsN f).length = f := by simp [rowsN, numsN]
theorem rowsN_S (f : Nat) : ∀ d ∈ rowsN f, RowS d := fun d hd => by
  simp only [rowsN, numsN, List.mem_map] at hd
  obtain ⟨x, ⟨k, -, rfl⟩, rfl⟩ := hd
  exact ⟨idI k, (k : Int) % 2, rfl, strOk_app (strOk_app (strOk_of _) (strOk_of _)) (strOk_of _)⟩
theorem at_rng {h : Hb} (f i : Nat) : (It.rng 0 f).at h i = some (numsN f)[i]? := by
  simp only [It.at, numsN, List.getElem?_map]
  by_cases lt : i < f
  · rw [if_pos lt, List.getElem?_range lt]; simp
  · rw [if_neg lt, List.getElem?_eq_none (by simpa using lt)]; rfl
theorem source_rows {F : Fn} {ρ : En} {h : Hb} {f : Nat} (h1 : getVar ρ 1 = some (.int f)) (l : f ≤ 2000) (g3 : ∀ d, getVar (setVar (Ev.wipe ρ [3]) 3 d) 3 = some d) :
    evE F (.comp true (.nm 3) (.rng1 (.var 1)) .yes (.tup (.cons (.bin .Add (.bin .Add (.str "0.") (.blt .str (.cons (.bin .Add (.var 3) (.int 1)) .nil))) (.str ".0")) (.cons (.bin .Mod (.blt .int (.cons (.var 3) .nil)) (.int 2)) .nil)))) ρ h = some (.ok (.ref h.length) (h ++ [.lst (rowsN f)])) := by
  have it : evI F (.rng1 (.var 1)) ρ h = some (.ok (.rng 0 f) h) := by
    rw [qI_rng1, ev_var h1, bnd_ok]
    simp only []
    rw [if_pos (by simp only [fits62, decide_eq_true_eq]; omega)]
    simp
  rw [qE_comp, it, bnd_ok]
  have hz : (It.rng 0 f).size h = (numsN f).length := by simp [It.size, numsN]
  have key := comp_all (J := .rng 0 f) (g := .nm 3) (c := evT F .yes) (e := evE F (.tup (.cons (.bin .Add (.bin .Add (.str "0.") (.blt .str (.cons (.bin .Add (.var 3) (.int 1)) .nil))) (.str ".0")) (.cons (.bin .Mod (.blt .int (.cons (.var 3) .nil)) (.int 2)) .nil)))) (ρ := Ev.wipe ρ (Tg.nm 3).slots) (h := h) (ds := numsN f) (p := fun _ => true) (f := rowI) (at_rng f) hz (fun d hd => ⟨_, rfl, qT_yes, fun _ => by
    simp only [numsN, List.mem_map, List.mem_range] at hd
    obtain ⟨k, hk, rfl⟩ := hd
    have g := g3 (.int k)
    have nl := num_len k (by omega)
    have lg : ((k : Int) + 1).natAbs.log2 < 1920 := by
      have : ((k : Int) + 1).natAbs = k + 1 := by omega
      rw [this]
      have : k + 1 < 2 ^ 1920 := Nat.lt_of_lt_of_le (show k + 1 < 2 ^ 11 by omega) (Nat.pow_le_pow_right (by decide) (by decide))
      exact (Nat.log2_lt (by omega)).mpr this
    have l0 : (("0." : Str)).length = 2 := by rfl
    have l1 : ((".0" : Str)).length = 2 := by rfl
    have ek : evE F (.bin .Add (.var 3) (.int 1)) (setVar (Ev.wipe ρ [3]) 3 (.int k)) h = some (.ok (.int ((k : Int) + 1)) h) := by
      rw [qE_bin, ev_var g, bnd_ok, qE_int, bnd_ok]; rfl
    have es : evE F (.blt .str (.cons (.bin .Add (.var 3) (.int 1)) .nil)) (setVar (Ev.wipe ρ [3]) 3 (.int k)) h = some (.ok (.str (Str.ofString (toString ((k : Int) + 1)))) h) := by
      rw [qE_blt, evL1 ek, bnd_ok]
      simp only [bltD, lg, if_true, nvRes]
    have e1 : evE F (.bin .Add (.str "0.") (.blt .str (.cons (.bin .Add (.var 3) (.int 1)) .nil))) (setVar (Ev.wipe ρ [3]) 3 (.int k)) h = some (.ok (.str (("0." : Str) ++ (Str.ofString (toString ((k : Int) + 1))))) h) := by
      rw [qE_bin, qE_str, bnd_ok, es, bnd_ok]
      simp only [binD]
      rw [if_pos (by rw [l0, sizeLine_eq']; omega)]
      rfl
    have e2 : evE F (.bin .Add (.bin .Add (.str "0.") (.blt .str (.cons (.bin .Add (.var 3) (.int 1)) .nil))) (.str ".0")) (setVar (Ev.wipe ρ [3]) 3 (.int k)) h = some (.ok (.str (idI k)) h) := by
      rw [qE_bin, e1, bnd_ok, qE_str, bnd_ok]
      simp only [binD]
      rw [if_pos (by rw [str_app_len, l0, l1, sizeLine_eq']; omega)]
      rfl
    have e3 : evE F (.bin .Mod (.blt .int (.cons (.var 3) .nil)) (.int 2)) (setVar (Ev.wipe ρ [3]) 3 (.int k)) h = some (.ok (.int ((k : Int) % 2)) h) := by
      rw [qE_bin, qE_blt, evL1 (ev_var g), bnd_ok]
      rfl
    show evE F _ (setVar (Ev.wipe ρ [3]) 3 (.int k)) h = _
    rw [qE_tup, evL2 e2 e3, bnd_ok, if_pos (by simp [sizeLine_eq'])]
    rfl⟩) [] (by
      have := List.length_filter_le (fun _ => true) (numsN f)
      simp only [numsN, List.length_map, List.length_range, List.length_nil] at this ⊢
      rw [sizeLine_eq']; omega)
  rw [key]
  rw [show (numsN f).filter (fun _ => true) = numsN f from List.filter_eq_self.mpr fun _ _ => rfl]
  rfl
theorem gc_changed {h h' : Hb} {d : D} {k : Nat} (lt : k < h.length) (ne : h'[k]? ≠ h[k]?) : gc h.length h d h' = .ok d h' := by
  unfold gc
  rw [if_neg]
  intro e
  apply ne
  rw [← e, List.getElem?_take, if_pos lt]
theorem set_k (h : Hb) (G : List Ob) (k : Nat) (x : Ob) : (h ++ G).set (h.length + k) x = h ++ G.set k x := by
  rw [List.set_append_right _ _ (by omega)]
  congr 2; omega
theorem run_nx {n : Nat} {d : Df} {ds : List D} {h h' : Hb} {ρ : En} (hl : ds.length = d.pars.length) (e : evSs (FN n) pg.above WF d.body (startEn d ds) h = some (.nx ρ h')) : runDf (FN n) pg.above WF d ds h = some (gc h.length h .non h') := by
  unfold runDf
  rw [if_pos hl, e]
/-- a source that stands -/
def srcO (nm : Str) (L : Nat) : Ob := .ins "Source" [("name", .str nm), ("columns", .ref (L + 4)), ("kinds", .ref (L + 5)), ("rows", .ref (L + 6))]
def colsL : List D := [.str "id", .str "a"]
def kindsL : List D := [.str "text", .str "integer"]
def srcHb (nm : Str) (L : Nat) (rows : List D) : Hb := [.lst rows, .lst colsL, .lst kindsL, srcO nm L, .lst colsL, .lst kindsL, .lst rows]
theorem source_init (n : Nat) (h : Hb) (nm : Str) (rows : List D) :
    (FN (n + 1)).run "Source" "__init__" [.ref (h.length + 3), .str nm, .ref (h.length + 1), .ref (h.length + 2), .ref h.length] (h ++ [.lst rows, .lst colsL, .lst kindsL, .ins "Source" []]) = some (.ok .non (h ++ srcHb nm h.length rows)) := by
  rw [run_of k_SourceI]
  have lst : ∀ {h' h'' : Hb} {x m : Nat} {ds : List D}, getVar [some (D.ref (h.length + 3)), some (.str nm), some (.ref (h.length + 1)), some (.ref (h.length + 2)), some (.ref h.length)] x = some (.ref m) → h'[m]? = some (.lst ds) → evE (FN n) (.blt .list (.cons (.var x) .nil)) [some (D.ref (h.length + 3)), some (.str nm), some (.ref (h.length + 1)), some (.ref (h.length + 2)), some (.ref h.length)] h' = some (.ok (.ref h'.length) (h' ++ [.lst ds])) := by
    intro h' h'' x m ds hx hm
    rw [qE_blt, evL1 (ev_var hx), bnd_ok]
    simp only [bltD, items_of hm, Option.map, nvRes]
  have gS : getVar [some (D.ref (h.length + 3)), some (.str nm), some (.ref (h.length + 1)), some (.ref (h.length + 2)), some (.ref h.length)] 0 = some (.ref (h.length + 3)) := rfl
  have put : ∀ {G : Hb} {fs : List (Str × D)} (f : Str) (d : D), G[3]? = some (.ins "Source" fs) → fs.length < 1000 → putFld (h ++ G) (.ref (h.length + 3)) "Source" f d = some (h ++ G.set 3 (.ins "Source" (putA f d fs))) := by
    intro G fs f d hG hf
    simp only [putFld, at_new, hG]
    rw [if_pos ⟨trivial, hf⟩, set_k]
  have e1 : evS (FN n) pg.above WF (.asg (.fld (.var 0) "Source" "name") (.var 1)) (startEn m_SourceU_initU [.ref (h.length + 3), .str nm, .ref (h.length + 1), .ref (h.length + 2), .ref h.length]) (h ++ [.lst rows, .lst colsL, .lst kindsL, .ins "Source" []]) = some (.nx (startEn m_SourceU_initU [.ref (h.length + 3), .str nm, .ref (h.length + 1), .ref (h.length + 2), .ref h.length]) (h ++ [.lst rows, .lst colsL, .lst kindsL, .ins "Source" [("name", .str nm)]])) := by
    rw [qS_asg_fld, ev_var (d := .str nm) rfl, sB_ok, ev_var (d := .ref (h.length + 3)) rfl, sB_ok, put (fs := []) _ _ rfl (by simp)]
    rfl
  have e2 : evS (FN n) pg.above WF (.asg (.fld (.var 0) "Source" "columns") (.blt .list (.cons (.var 2) .nil))) (startEn m_SourceU_initU [.ref (h.length + 3), .str nm, .ref (h.length + 1), .ref (h.length + 2), .ref h.length]) (h ++ [.lst rows, .lst colsL, .lst kindsL, .ins "Source" [("name", .str nm)]]) = some (.nx (startEn m_SourceU_initU [.ref (h.length + 3), .str nm, .ref (h.length + 1), .ref (h.length + 2), .ref h.length]) (h ++ [.lst rows, .lst colsL, .lst kindsL, .ins "Source" [("name", .str nm), ("columns", .ref (h.length + 4))], .lst colsL])) := by
    have l := lst (h'' := h) (h' := h ++ [.lst rows, .lst colsL, .lst kindsL, .ins "Source" [("name", .str nm)]]) (x := 2) (m := h.length + 1) (ds := colsL) rfl (by rw [at_new]; rfl)
    rw [List.append_assoc, List.length_append] at l
    rw [qS_asg_fld]
    show sB (startEn m_SourceU_initU [.ref (h.length + 3), .str nm, .ref (h.length + 1), .ref (h.length + 2), .ref h.length]) (evE (FN n) _ [some (D.ref (h.length + 3)), some (.str nm), some (.ref (h.length + 1)), some (.ref (h.length + 2)), some (.ref h.length)] _) _ = _
    rw [l, sB_ok, ev_var (d := .ref (h.length + 3)) rfl, sB_ok, put (fs := [("name", .str nm)]) _ _ rfl (by simp)]
    rfl
  have e3 : evS (FN n) pg.above WF (.asg (.fld (.var 0) "Source" "kinds") (.blt .list (.cons (.var 3) .nil))) (startEn m_SourceU_initU [.ref (h.length + 3), .str nm, .ref (h.length + 1), .ref (h.length + 2), .ref h.length]) (h ++ [.lst rows, .lst colsL, .lst kindsL, .ins "Source" [("name", .str nm), ("columns", .ref (h.length + 4))], .lst colsL]) = some (.nx (startEn m_SourceU_initU [.ref (h.length + 3), .str nm, .ref (h.length + 1), .ref (h.length + 2), .ref h.length]) (h ++ [.lst rows, .lst colsL, .lst kindsL, .ins "Source" [("name", .str nm), ("columns", .ref (h.length + 4)), ("kinds", .ref (h.length + 5))], .lst colsL, .lst kindsL])) := by
    have l := lst (h'' := h) (h' := h ++ [.lst rows, .lst colsL, .lst kindsL, .ins "Source" [("name", .str nm), ("columns", .ref (h.length + 4))], .lst colsL]) (x := 3) (m := h.length + 2) (ds := kindsL) rfl (by rw [at_new]; rfl)
    rw [List.append_assoc, List.length_append] at l
    rw [qS_asg_fld]
    show sB (startEn m_SourceU_initU [.ref (h.length + 3), .str nm, .ref (h.length + 1), .ref (h.length + 2), .ref h.length]) (evE (FN n) _ [some (D.ref (h.length + 3)), some (.str nm), some (.ref (h.length + 1)), some (.ref (h.length + 2)), some (.ref h.length)] _) _ = _
    rw [l, sB_ok, ev_var (d := .ref (h.length + 3)) rfl, sB_ok, put (fs := [("name", .str nm), ("columns", .ref (h.length + 4))]) _ _ rfl (by simp)]
    rfl
  have e4 : evS (FN n) pg.above WF (.asg (.fld (.var 0) "Source" "rows") (.blt .list (.cons (.var 4) .nil))) (startEn m_SourceU_initU [.ref (h.length + 3), .str nm, .ref (h.length + 1), .ref (h.length + 2), .ref h.length]) (h ++ [.lst rows, .lst colsL, .lst kindsL, .ins "Source" [("name", .str nm), ("columns", .ref (h.length + 4)), ("kinds", .ref (h.length + 5))], .lst colsL, .lst kindsL]) = some (.nx (startEn m_SourceU_initU [.ref (h.length + 3), .str nm, .ref (h.length + 1), .ref (h.length + 2), .ref h.length]) (h ++ srcHb nm h.length rows)) := by
    have l := lst (h'' := h) (h' := h ++ [.lst rows, .lst colsL, .lst kindsL, .ins "Source" [("name", .str nm), ("columns", .ref (h.length + 4)), ("kinds", .ref (h.length + 5))], .lst colsL, .lst kindsL]) (x := 4) (m := h.length) (ds := rows) rfl (by rw [at_new0]; rfl)
    rw [List.append_assoc, List.length_append] at l
    rw [qS_asg_fld]
    show sB (startEn m_SourceU_initU [.ref (h.length + 3), .str nm, .ref (h.length + 1), .ref (h.length + 2), .ref h.length]) (evE (FN n) _ [some (D.ref (h.length + 3)), some (.str nm), some (.ref (h.length + 1)), some (.ref (h.length + 2)), some (.ref h.length)] _) _ = _
    rw [l, sB_ok, ev_var (d := .ref (h.length + 3)) rfl, sB_ok, put (fs := [("name", .str nm), ("columns", .ref (h.length + 4)), ("kinds", .ref (h.length + 5))]) _ _ rfl (by simp)]
    rfl
  have e5 : evSs (FN n) pg.above WF m_SourceU_initU.body (startEn m_SourceU_initU [.ref (h.length + 3), .str nm, .ref (h.length + 1), .ref (h.length + 2), .ref h.length]) (h ++ [.lst rows, .lst colsL, .lst kindsL, .ins "Source" []]) = _ :=
    (ss_nx e1).trans ((ss_nx e2).trans ((ss_nx e3).trans ((ss_nx e4).trans qSs_nil)))
  rw [run_nx (d := m_SourceU_initU) rfl e5]
  refine congrArg some (gc_changed (k := h.length + 3) (by simp) ?_)
  rw [at_new, at_new]
  simp [srcHb, srcO]
/-- a source of the law -/
theorem source_run (n : Nat) (h : Hb) (nm : Str) (f : Nat) (l : f ≤ 2000) : (FN (n + 2)).run Str.empty "_law_source" [.str nm, .int f] h = some (.ok (.ref (h.length + 3)) (h ++ srcHb nm h.length (rowsN f))) := by
  rw [run_of k_source]
  have e1 : evS (FN (n + 1)) pg.above WF (.asg (.tg (.nm 2)) (.comp true (.nm 3) (.rng1 (.var 1)) .yes (.tup (.cons (.bin .Add (.bin .Add (.str "0.") (.blt .str (.cons (.bin .Add (.var 3) (.int 1)) .nil))) (.str ".0")) (.cons (.bin .Mod (.blt .int (.cons (.var 3) .nil)) (.int 2)) .nil))))) (startEn fUlaw_source [.str nm, .int f]) h = some (.nx [some (.str nm), some (.int f), some (.ref h.length), none] (h ++ [.lst (rowsN f)])) := by
    rw [qS_asg_tg, source_rows (ρ := startEn fUlaw_source [.str nm, .int f]) (f := f) rfl l (fun _ => rfl)]
    rfl
  have lt : ∀ {e1 e2 : Ex} {a b : D} {ρ : En} {h : Hb}, evE (FN (n + 1)) e1 ρ h = some (.ok a h) → evE (FN (n + 1)) e2 ρ h = some (.ok b h) → evE (FN (n + 1)) (.lst (.cons e1 (.cons e2 .nil))) ρ h = some (.ok (.ref h.length) (h ++ [.lst [a, b]])) := by
    intro e1 e2 a b ρ h h1 h2
    rw [qE_lst, evL2 h1 h2, bnd_ok, if_pos (by simp [sizeLine_eq'])]
    rfl
  have el : evL (FN (n + 1)) (.cons (.var 0) (.cons (.lst (.cons (.str "id") (.cons (.str "a") .nil))) (.cons (.lst (.cons (.str "text") (.cons (.str "integer") .nil))) (.cons (.var 2) .nil)))) [some (.str nm), some (.int f), some (.ref h.length), none] (h ++ [.lst (rowsN f)]) = some (.ok [.str nm, .ref (h.length + 1), .ref (h.length + 2), .ref h.length] (h ++ [.lst (rowsN f), .lst colsL, .lst kindsL])) := by
    rw [qL_cons, ev_var (d := .str nm) rfl, bnd_ok, qL_cons, lt qE_str qE_str, bnd_ok, qL_cons, lt qE_str qE_str, bnd_ok, evL1 (ev_var (d := .ref h.length) rfl)]
    simp only [bnd_ok, List.append_assoc, List.cons_append, List.nil_append, List.length_append, List.length_cons, List.length_nil]
    rfl
  have em : evE (FN (n + 1)) (.make "Source" (.cons (.var 0) (.cons (.lst (.cons (.str "id") (.cons (.str "a") .nil))) (.cons (.lst (.cons (.str "text") (.cons (.str "integer") .nil))) (.cons (.var 2) .nil))))) [some (.str nm), some (.int f), some (.ref h.length), none] (h ++ [.lst (rowsN f)]) = some (.ok (.ref (h.length + 3)) (h ++ srcHb nm h.length (rowsN f))) := by
    rw [qE_make, el, bnd_ok]
    have := source_init n h nm (rowsN f)
    rw [List.append_assoc, show (h ++ [Ob.lst (rowsN f), .lst colsL, .lst kindsL]).length = h.length + 3 by simp]
    show bnd ((FN (n + 1)).run "Source" "__init__" [.ref (h.length + 3), .str nm, .ref (h.length + 1), .ref (h.length + 2), .ref h.length] (h ++ [.lst (rowsN f), .lst colsL, .lst kindsL, .ins "Source" []])) _ = _
    rw [this]
    rfl
  have e3 : evSs (FN (n + 1)) pg.above WF fUlaw_source.body (startEn fUlaw_source [.str nm, .int f]) h = _ := (ss_nx e1).trans (ret_ev em)
  rw [run_ret (d := fUlaw_source) rfl e3]
  refine congrArg some ?_
  unfold gc
  rw [if_pos (by simp)]
  simp only [at_new]
  rw [if_neg (by omega)]
  rfl
end Pl

set_option Elab.async false
set_option linter.all false
set_option maxRecDepth 100000
set_option autoImplicit false
set_option maxHeartbeats 0
/-! Pl38: the law's plans. -/
namespace Pl
open PySem Ev PK Qe
theorem k_column : keys.lookup (Str.empty, ("_law_column" : Str)) = some fUlaw_column := by rfl
theorem k_drawn : keys.lookup (Str.empty, ("_law_drawn" : Str)) = some fUlaw_drawn := by rfl
theorem column1 (n : Nat) (h : Hb) : (FN (n + 1)).run Str.empty "_law_column" [.int 1] h = some (.ok colP h) := by
  rw [run_of k_column]
  have ev : evE (FN n) (.tup (.cons (.str "column") (.cons .non (.cons (.blt .str (.cons (.var 0) .nil)) .nil)))) [some (.int 1)] h = some (.ok colP h) := by
    rw [qE_tup, evL3 (d := .str "column") (e := .non) (f := .str "1") (by rw [qE_str]) (by rw [qE_non]) (by
      rw [qE_blt, evL1 (ev_var (d := .int 1) rfl), bnd_ok]
      rfl), bnd_ok, if_pos (by simp [sizeLine_eq'])]
    rfl
  have e3 : evSs (FN n) pg.above WF fUlaw_column.body (startEn fUlaw_column [.int 1]) h = _ := ret_ev ev
  rw [run_ret (d := fUlaw_column) rfl e3]
  exact congrArg some (gc_same h _)
def colQ : D := .tup [.str "column", .non, .str "3"]
theorem column3 (n : Nat) (h : Hb) : (FN (n + 1)).run Str.empty "_law_column" [.int 3] h = some (.ok colQ h) := by
  rw [run_of k_column]
  have ev : evE (FN n) (.tup (.cons (.str "column") (.cons .non (.cons (.blt .str (.cons (.var 0) .nil)) .nil)))) [some (.int 3)] h = some (.ok colQ h) := by
    rw [qE_tup, evL3 (d := .str "column") (e := .non) (f := .str "3") (by rw [qE_str]) (by rw [qE_non]) (by
      rw [qE_blt, evL1 (ev_var (d := .int 3) rfl), bnd_ok]
      rfl), bnd_ok, if_pos (by simp [sizeLine_eq'])]
    rfl
  have e3 : evSs (FN n) pg.above WF fUlaw_column.body (startEn fUlaw_column [.int 3]) h = _ := ret_ev ev
  rw [run_ret (d := fUlaw_column) rfl e3]
  exact congrArg some (gc_same h _)
/-- tuples -/
theorem ev_tupL {F : Fn} {ρ : En} {h h' : Hb} {es : ExL} {ds : List D} (e : evL F es ρ h = some (.ok ds h')) (l : ds.length ≤ 10) : evE F (.tup es) ρ h = some (.ok (.tup ds) h') := by
  rw [qE_tup, e, bnd_ok, if_pos (by rw [sizeLine_eq']; omega)]
theorem evL0 {F : Fn} {ρ : En} {h : Hb} : evL F .nil ρ h = some (.ok [] h) := by rw [qL_nil]
theorem evLc {F : Fn} {ρ : En} {h h1 h2 : Hb} {e : Ex} {es : ExL} {d : D} {ds : List D} (a : evE F e ρ h = some (.ok d h1)) (b : evL F es ρ h1 = some (.ok ds h2)) : evL F (.cons e es) ρ h = some (.ok (d :: ds) h2) := by
  rw [qL_cons, a, bnd_ok, b, bnd_ok]
theorem ev_call1 {F : Fn} {ρ : En} {h h1 : Hb} {f : Str} {e : Ex} {d : D} {r : RO D} (a : evE F e ρ h = some (.ok d h1)) (b : F.run Str.empty f [d] h1 = r) : evE F (.call f (.cons e .nil)) ρ h = r := by
  rw [qE_call, evLc a evL0, bnd_ok, b]
theorem ev_call2 {F : Fn} {ρ : En} {h h1 h2 : Hb} {f : Str} {e1 e2 : Ex} {d1 d2 : D} {r : RO D} (a : evE F e1 ρ h = some (.ok d1 h1)) (b : evE F e2 ρ h1 = some (.ok d2 h2)) (c : F.run Str.empty f [d1, d2] h2 = r) : evE F (.call f (.cons e1 (.cons e2 .nil))) ρ h = r := by
  rw [qE_call, evLc a (evLc b evL0), bnd_ok, c]
theorem ev_call3 {F : Fn} {ρ : En} {h h1 h2 h3 : Hb} {f : Str} {e1 e2 e3 : Ex} {d1 d2 d3 : D} {r : RO D} (a : evE F e1 ρ h = some (.ok d1 h1)) (b : evE F e2 ρ h1 = some (.ok d2 h2)) (b' : evE F e3 ρ h2 = some (.ok d3 h3)) (c : F.run Str.empty f [d1, d2, d3] h3 = r) : evE F (.call f (.cons e1 (.cons e2 (.cons e3 .nil)))) ρ h = r := by
  rw [qE_call, evLc a (evLc b (evLc b' evL0)), bnd_ok, c]
theorem ev_int {F : Fn} {ρ : En} {h : Hb} {i : Int} : evE F (.int i) ρ h = some (.ok (.int i) h) := by rw [qE_int]
theorem ev_str {F : Fn} {ρ : En} {h : Hb} {i : Str} : evE F (.str i) ρ h = some (.ok (.str i) h) := by rw [qE_str]
theorem ev_non {F : Fn} {ρ : En} {h : Hb} : evE F .non ρ h = some (.ok .non h) := by rw [qE_non]
theorem ev_bl {F : Fn} {ρ : En} {h : Hb} {b : Bool} : evE F (.bl b) ρ h = some (.ok (.bl b) h) := by rw [qE_bl]
theorem St.lt {sc st : Nat} {ns : List Int} {h : Hb} (i : St sc st ns h) : st < h.length := by obtain ⟨-, -, p, z, q, -, b⟩ := i; exact (List.getElem?_eq_some_iff.mp b).1
/-- the draws went on, and something may have been made -/
def Stp (sc st : Nat) (h H : Hb) : Prop := ∃ p z q G, 0 ≤ p ∧ H = h.set st (stO sc p z q) ++ G
theorem Stp.st {sc st : Nat} {ns : List Int} {h H : Hb} (i : St sc st ns h) (a : Stp sc st h H) : St sc st ns H := by
  obtain ⟨p, z, q, G, hp, rfl⟩ := a
  exact (i.set hp).app G
theorem Stp.old {sc st k : Nat} {h H : Hb} {o : Ob} (a : Stp sc st h H) (ne : k ≠ st) (e : h[k]? = some o) : H[k]? = some o := by
  obtain ⟨p, z, q, G, hp, rfl⟩ := a
  exact at_old (by rw [set_ne ne]; exact e)
theorem Stp.refl {sc st : Nat} {ns : List Int} {h : Hb} (i : St sc st ns h) (G : Hb) : Stp sc st h (h ++ G) := by
  obtain ⟨-, -, p, z, q, hp, b⟩ := i
  exact ⟨p, z, q, G, hp, by rw [set_same b]⟩
theorem Stp.trans {sc st : Nat} {h H K : Hb} (lt : st < h.length) (a : Stp sc st h H) (b : Stp sc st H K) : Stp sc st h K := by
  obtain ⟨p, z, q, G, hp, rfl⟩ := a
  obtain ⟨p', z', q', G', hp', rfl⟩ := b
  refine ⟨p', z', q', G ++ G', hp', ?_⟩
  rw [List.set_append_left _ _ (by simpa using lt), List.set_set, List.append_assoc]
theorem Stp.app {sc st : Nat} {h H : Hb} (a : Stp sc st h H) (K : Hb) : Stp sc st h (H ++ K) := by
  obtain ⟨p, z, q, G, hp, rfl⟩ := a
  exact ⟨p, z, q, G ++ K, hp, by rw [List.append_assoc]⟩
theorem gc_stp {sc st : Nat} {ns : List Int} {h : Hb} {d : D} {p z q : Int} {G H : Hb} (i : St sc st ns h) (hp : 0 ≤ p) (nr : noRef d = true) (e : H = h.set st (stO sc p z q) ++ G) : ∃ H', gc h.length h d H = .ok d H' ∧ Stp sc st h H' := by
  unfold gc
  split
  · refine ⟨h, ?_, by simpa using Stp.refl i []⟩
    cases d with
    | ref m => simp [noRef] at nr
    | _ => simp only [nr, if_true]
  · exact ⟨H, rfl, p, z, q, G, hp, e⟩
/-- what the law takes to be the greatest number -/
def alikeI (f s : Nat) : Int := ((f : Int) + 1) / 2 * (((s : Int) + 1) / 2) + (f : Int) / 2 * ((s : Int) / 2)
def Pk.told (f s : Nat) : Pk → D
  | .cross => .int ((f : Int) * s)
  | .keep => .int ((f : Int) * s)
  | .jlit _ => .int ((f : Int) * s)
  | .jeq => .int (alikeI f s)
  | .mat => .int (alikeI f s)
  | .out => .non
  | .all => .int ((f : Int) + s)
  | .dist => .int ((f : Int) * s)
  | .grp => .int (2 * (f : Int) + s)
abbrev envD (st : Nat) (f s : Nat) (pick : Int) : En := [some (.ref st), some (.int f), some (.int s), some (.int pick), some scanA, some scanB, some (.int ((f : Int) * s)), some (.int (alikeI f s))]
theorem small_of {i : Int} (a : 0 ≤ i) (b : i ≤ 5000000) : small64 i = true := by
  simp only [small64, decide_eq_true_eq]
  have e : (2 : Int) ^ 64 = 18446744073709551616 := by decide
  rw [e]; omega
section
variable (n : Nat) (h : Hb) (st : Nat) (f s : Nat) (pick : Int) (lf : f ≤ 2000) (ls : s ≤ 2000)
include lf ls
theorem dr1 : evS (FN n) pg.above WF (.asg (.tg (.tu [4, 5])) (.tup (.cons (.tup (.cons (.str "scan") (.cons (.str "s0_a") .nil))) (.cons (.tup (.cons (.str "scan") (.cons (.str "s0_b") .nil))) .nil)))) (startEn fUlaw_drawn [.ref st, .int f, .int s, .int pick]) h = some (.nx [some (.ref st), some (.int f), some (.int s), some (.int pick), some scanA, some scanB, none, none] h) := by
    rw [qS_asg_tg, ev_tupL (evLc (ev_tupL (evLc ev_str (evLc ev_str evL0)) (by simp)) (evLc (ev_tupL (evLc ev_str (evLc ev_str evL0)) (by simp)) evL0)) (by simp)]
    rfl
theorem dr2 : evS (FN n) pg.above WF (.asg (.tg (.nm 6)) (.bin .Mult (.var 1) (.var 2))) [some (.ref st), some (.int f), some (.int s), some (.int pick), some scanA, some scanB, none, none] h = some (.nx [some (.ref st), some (.int f), some (.int s), some (.int pick), some scanA, some scanB, some (.int ((f : Int) * s)), none] h) := by
    rw [qS_asg_tg, qE_bin, ev_var (d := .int f) rfl, bnd_ok, ev_var (d := .int s) rfl, bnd_ok]
    simp only [binD]
    rw [if_pos (.inl (small_of (by omega) (by omega)))]
    rfl
theorem dr3 : evS (FN n) pg.above WF (.asg (.tg (.nm 7)) (.bin .Add (.bin .Mult (.bin .FloorDiv (.bin .Add (.var 1) (.int 1)) (.int 2)) (.bin .FloorDiv (.bin .Add (.var 2) (.int 1)) (.int 2))) (.bin .Mult (.bin .FloorDiv (.var 1) (.int 2)) (.bin .FloorDiv (.var 2) (.int 2))))) [some (.ref st), some (.int f), some (.int s), some (.int pick), some scanA, some scanB, some (.int ((f : Int) * s)), none] h = some (.nx (envD st f s pick) h) := by
    have sm1 : small64 (((f : Int) + 1) / 2) = true := small_of (by omega) (by omega)
    have sm2 : small64 ((f : Int) / 2) = true := small_of (by omega) (by omega)
    have g1 : getVar [some (D.ref st), some (.int f), some (.int s), some (.int pick), some scanA, some scanB, some (.int ((f : Int) * s)), none] 1 = some (.int f) := rfl
    have g2 : getVar [some (D.ref st), some (.int f), some (.int s), some (.int pick), some scanA, some scanB, some (.int ((f : Int) * s)), none] 2 = some (.int s) := rfl
    have dv : ∀ {e : Ex} {i : Int}, evE (FN n) e [some (D.ref st), some (.int f), some (.int s), some (.int pick), some scanA, some scanB, some (.int ((f : Int) * s)), none] h = some (.ok (.int i) h) → evE (FN n) (.bin .FloorDiv e (.int 2)) [some (D.ref st), some (.int f), some (.int s), some (.int pick), some scanA, some scanB, some (.int ((f : Int) * s)), none] h = some (.ok (.int (i / 2)) h) := by
      intro e i he
      rw [qE_bin, he, bnd_ok, qE_int, bnd_ok]
      simp only [binD]
      rw [if_pos (by decide)]
      rfl
    have p1 : ∀ {e : Ex} {i : Int}, evE (FN n) e [some (D.ref st), some (.int f), some (.int s), some (.int pick), some scanA, some scanB, some (.int ((f : Int) * s)), none] h = some (.ok (.int i) h) → evE (FN n) (.bin .Add e (.int 1)) [some (D.ref st), some (.int f), some (.int s), some (.int pick), some scanA, some scanB, some (.int ((f : Int) * s)), none] h = some (.ok (.int (i + 1)) h) := by
      intro e i he
      rw [qE_bin, he, bnd_ok, qE_int, bnd_ok]
      rfl
    have ml : ∀ {e e2 : Ex} {i j : Int}, small64 i = true → evE (FN n) e [some (D.ref st), some (.int f), some (.int s), some (.int pick), some scanA, some scanB, some (.int ((f : Int) * s)), none] h = some (.ok (.int i) h) → evE (FN n) e2 [some (D.ref st), some (.int f), some (.int s), some (.int pick), some scanA, some scanB, some (.int ((f : Int) * s)), none] h = some (.ok (.int j) h) → evE (FN n) (.bin .Mult e e2) [some (D.ref st), some (.int f), some (.int s), some (.int pick), some scanA, some scanB, some (.int ((f : Int) * s)), none] h = some (.ok (.int (i * j)) h) := by
      intro e e2 i j sm he he2
      rw [qE_bin, he, bnd_ok, he2, bnd_ok]
      simp only [binD]
      rw [if_pos (.inl sm)]
      rfl
    rw [qS_asg_tg, qE_bin, ml sm1 (dv (p1 (ev_var g1))) (dv (p1 (ev_var g2))), bnd_ok, ml sm2 (dv (ev_var g1)) (dv (ev_var g2)), bnd_ok]
    rfl
end
theorem drawn_pre (n : Nat) (h : Hb) (st : Nat) (f s : Nat) (pick : Int) (lf : f ≤ 2000) (ls : s ≤ 2000) {R : Option SR} {ss : SxL}
    (e : evSs (FN n) pg.above WF ss (envD st f s pick) h = R) :
    evSs (FN n) pg.above WF (.cons (.asg (.tg (.tu [4, 5])) (.tup (.cons (.tup (.cons (.str "scan") (.cons (.str "s0_a") .nil))) (.cons (.tup (.cons (.str "scan") (.cons (.str "s0_b") .nil))) .nil))))
 (.cons (.asg (.tg (.nm 6)) (.bin .Mult (.var 1) (.var 2)))
 (.cons (.asg (.tg (.nm 7)) (.bin .Add (.bin .Mult (.bin .FloorDiv (.bin .Add (.var 1) (.int 1)) (.int 2)) (.bin .FloorDiv (.bin .Add (.var 2) (.int 1)) (.int 2))) (.bin .Mult (.bin .FloorDiv (.var 1) (.int 2)) (.bin .FloorDiv (.var 2) (.int 2)))))
 ss))) (startEn fUlaw_drawn [.ref st, .int f, .int s, .int pick]) h = R :=
  (ss_nx (dr1 n h st f s pick lf ls)).trans ((ss_nx (dr2 n h st f s pick lf ls)).trans ((ss_nx (dr3 n h st f s pick lf ls)).trans e))
theorem pickT {F : Fn} {ρ : En} {h : Hb} {i : Int} (e : getVar ρ 3 = some (.int i)) : evT F (.cmp .Eq (.var 3) (.int i)) ρ h = some (.ok true h) := by
  rw [qT_cmp, ev_var e, bnd_ok, qE_int, bnd_ok]
  simp [cmpD, eqD, scalar, scalEq]
theorem pickF {F : Fn} {ρ : En} {h : Hb} {i j : Int} (e : getVar ρ 3 = some (.int i)) (ne : i ≠ j) : evT F (.cmp .Eq (.var 3) (.int j)) ρ h = some (.ok false h) := by
  rw [qT_cmp, ev_var e, bnd_ok, qE_int, bnd_ok]
  simp [cmpD, eqD, scalar, scalEq, ne]
theorem drawn_end {n : Nat} {h h' : Hb} {ds : List D} {v : D} (nr : noRef v = true) (hl : ds.length = 4) (len : h'.length = h.length) (e : evSs (FN n) pg.above WF fUlaw_drawn.body (startEn fUlaw_drawn ds) h = some (.ret v h')) : (FN (n + 1)).run Str.empty "_law_drawn" ds h = some (.ok v h') := by
  rw [run_of k_drawn, run_ret (d := fUlaw_drawn) hl e]
  exact congrArg some (gc_len h h' v nr len)
section
variable (n : Nat) (h : Hb) (st : Nat) (f s : Nat) (lf : f ≤ 2000) (ls : s ≤ 2000)
include lf ls
theorem ev_cross {pick : Int} {h : Hb} : evE (FN n) (.tup (.cons (.str "cross") (.cons (.var 4) (.cons (.var 5) .nil)))) (envD st f s pick) h = some (.ok crossP h) :=
  ev_tupL (evLc ev_str (evLc (ev_var rfl) (evLc (ev_var rfl) evL0))) (by simp)
theorem drawn0 : (FN (n + 1)).run Str.empty "_law_drawn" [.ref st, .int f, .int s, .int 0] h = some (.ok (.tup [Pk.plan .cross, Pk.told f s .cross]) h) :=
  drawn_end rfl rfl rfl (drawn_pre n h st f s 0 lf ls (hit (pickT rfl) (ret_ev (ev_tupL (evLc (ev_cross n st f s lf ls) (evLc (ev_var rfl) evL0)) (by simp)))))
theorem drawn1 : (FN (n + 1)).run Str.empty "_law_drawn" [.ref st, .int f, .int s, .int 1] h = some (.ok (.tup [Pk.plan .keep, Pk.told f s .keep]) h) :=
  drawn_end rfl rfl rfl (drawn_pre n h st f s 1 lf ls ((skip (pickF rfl (by decide))).trans (hit (pickT rfl) (ret_ev (ev_tupL (evLc (ev_tupL (evLc ev_str (evLc (ev_tupL (evLc ev_str (evLc ev_bl evL0)) (by simp)) (evLc (ev_cross n st f s lf ls) evL0))) (by simp)) (evLc (ev_var rfl) evL0)) (by simp))))))
theorem drawn3 : (FN (n + 2)).run Str.empty "_law_drawn" [.ref st, .int f, .int s, .int 3] h = some (.ok (.tup [Pk.plan .jeq, Pk.told f s .jeq]) h) :=
  drawn_end rfl rfl rfl (drawn_pre (n + 1) h st f s 3 lf ls ((skip (pickF rfl (by decide))).trans ((skip (pickF rfl (by decide))).trans ((skip (pickF rfl (by decide))).trans (hit (pickT rfl) (ret_ev (ev_tupL (evLc (ev_tupL (evLc ev_str (evLc (ev_tupL (evLc ev_str (evLc ev_str (evLc (ev_call1 ev_int (column1 n h)) (evLc (ev_call1 ev_int (column3 n h)) evL0)))) (by simp)) (evLc (ev_var rfl) (evLc (ev_var rfl) evL0)))) (by simp)) (evLc (ev_var rfl) evL0)) (by simp))))))))
theorem drawn4 : (FN (n + 1)).run Str.empty "_law_drawn" [.ref st, .int f, .int s, .int 4] h = some (.ok (.tup [Pk.plan .mat, Pk.told f s .mat]) h) :=
  drawn_end rfl rfl rfl (drawn_pre n h st f s 4 lf ls ((skip (pickF rfl (by decide))).trans ((skip (pickF rfl (by decide))).trans ((skip (pickF rfl (by decide))).trans ((skip (pickF rfl (by decide))).trans (hit (pickT rfl) (ret_ev (ev_tupL (evLc (ev_tupL (evLc ev_str (evLc (ev_tupL (evLc (ev_tupL (evLc ev_int (evLc ev_int evL0)) (by simp)) evL0) (by simp)) (evLc (ev_var rfl) (evLc (ev_var rfl) evL0)))) (by simp)) (evLc (ev_var rfl) evL0)) (by simp)))))))))
theorem drawn5 : (FN (n + 2)).run Str.empty "_law_drawn" [.ref st, .int f, .int s, .int 5] h = some (.ok (.tup [Pk.plan .out, Pk.told f s .out]) h) :=
  drawn_end rfl rfl rfl (drawn_pre (n + 1) h st f s 5 lf ls ((skip (pickF rfl (by decide))).trans ((skip (pickF rfl (by decide))).trans ((skip (pickF rfl (by decide))).trans ((skip (pickF rfl (by decide))).trans ((skip (pickF rfl (by decide))).trans (hit (pickT rfl) (ret_ev (ev_tupL (evLc (ev_tupL (evLc ev_str (evLc (ev_tupL (evLc ev_str (evLc ev_str (evLc (ev_call1 ev_int (column1 n h)) (evLc (ev_call1 ev_int (column3 n h)) evL0)))) (by simp)) (evLc (ev_var rfl) (evLc (ev_var rfl) evL0)))) (by simp)) (evLc ev_non evL0)) (by simp))))))))))
theorem drawn6 : (FN (n + 1)).run Str.empty "_law_drawn" [.ref st, .int f, .int s, .int 6] h = some (.ok (.tup [Pk.plan .all, Pk.told f s .all]) h) :=
  drawn_end rfl rfl rfl (drawn_pre n h st f s 6 lf ls ((skip (pickF rfl (by decide))).trans ((skip (pickF rfl (by decide))).trans ((skip (pickF rfl (by decide))).trans ((skip (pickF rfl (by decide))).trans ((skip (pickF rfl (by decide))).trans ((skip (pickF rfl (by decide))).trans (hit (pickT rfl) (ret_ev (ev_tupL (evLc (ev_tupL (evLc ev_str (evLc (ev_var rfl) (evLc (ev_var rfl) evL0))) (by simp)) (evLc (d := .int ((f : Int) + s)) (by
    rw [qE_bin, ev_var (d := .int f) rfl, bnd_ok, ev_var (d := .int s) rfl, bnd_ok]; rfl) evL0)) (by simp)))))))))))
theorem drawn7 : (FN (n + 2)).run Str.empty "_law_drawn" [.ref st, .int f, .int s, .int 7] h = some (.ok (.tup [Pk.plan .dist, Pk.told f s .dist]) h) :=
  drawn_end rfl rfl rfl (drawn_pre (n + 1) h st f s 7 lf ls ((skip (pickF rfl (by decide))).trans ((skip (pickF rfl (by decide))).trans ((skip (pickF rfl (by decide))).trans ((skip (pickF rfl (by decide))).trans ((skip (pickF rfl (by decide))).trans ((skip (pickF rfl (by decide))).trans ((skip (pickF rfl (by decide))).trans (hit (pickT rfl) (ret_ev (ev_tupL (evLc (ev_tupL (evLc ev_str (evLc (ev_tupL (evLc ev_str (evLc (ev_tupL (evLc (ev_call1 ev_int (column1 n h)) evL0) (by simp)) (evLc (ev_cross (n + 1) st f s lf ls) evL0))) (by simp)) evL0)) (by simp)) (evLc (ev_var rfl) evL0)) (by simp))))))))))))
theorem drawn8 : (FN (n + 2)).run Str.empty "_law_drawn" [.ref st, .int f, .int s, .int 8] h = some (.ok (.tup [Pk.plan .grp, Pk.told f s .grp]) h) :=
  drawn_end rfl rfl rfl (drawn_pre (n + 1) h st f s 8 lf ls ((skip (pickF rfl (by decide))).trans ((skip (pickF rfl (by decide))).trans ((skip (pickF rfl (by decide))).trans ((skip (pickF rfl (by decide))).trans ((skip (pickF rfl (by decide))).trans ((skip (pickF rfl (by decide))).trans ((skip (pickF rfl (by decide))).trans ((skip (pickF rfl (by decide))).trans (ret_ev (ev_tupL (evLc (ev_tupL (evLc ev_str (evLc (ev_tupL (evLc ev_int evL0) (by simp)) (evLc (ev_tupL (evLc (ev_call1 ev_int (column1 n h)) (evLc (ev_tupL (evLc ev_str evL0) (by simp)) evL0)) (by simp)) (evLc ev_non (evLc (ev_tupL (evLc ev_str (evLc (ev_tupL (evLc ev_str (evLc (ev_var rfl) (evLc (ev_var rfl) evL0))) (by simp)) (evLc (ev_var rfl) evL0))) (by simp)) evL0))))) (by simp)) (evLc (d := .int (2 * (f : Int) + s)) (by
    have e : evE (FN (n + 1)) (.bin .Mult (.int 2) (.var 1)) (envD st f s 8) h = some (.ok (.int (2 * (f : Int))) h) := by
      rw [qE_bin, qE_int, bnd_ok, ev_var (d := .int f) rfl, bnd_ok]
      simp only [binD]
      rw [if_pos (.inl (by decide))]
      rfl
    rw [qE_bin, e, bnd_ok, ev_var (d := .int s) rfl, bnd_ok]; rfl) evL0)) (by simp))))))))))))
theorem drawn2 {sc : Nat} {ns : List Int} (i : St sc st ns h) : ∃ x H, Pk.fit (.jlit x) ∧ Stp sc st h H ∧ (FN (n + 2)).run Str.empty "_law_drawn" [.ref st, .int f, .int s, .int 2] h = some (.ok (.tup [Pk.plan (.jlit x), Pk.told f s (.jlit x)]) H) := by
  obtain ⟨v, p, z, q, v0, v1, hp, e⟩ := next_run n (h ++ [.lst [.bl true, .bl false, .non]]) sc st ns 3 (i.app _) (by decide) (by decide)
  have lt : st < h.length := i.lt
  obtain ⟨x, hx, fx⟩ : ∃ x, ixD [D.bl true, .bl false, .non] v = some x ∧ Pk.fit (.jlit x) := by
    have : v = 0 ∨ v = 1 ∨ v = 2 := by omega
    rcases this with rfl | rfl | rfl
    · exact ⟨_, rfl, .inl ⟨_, rfl⟩⟩
    · exact ⟨_, rfl, .inl ⟨_, rfl⟩⟩
    · exact ⟨_, rfl, .inr rfl⟩
  have nx : noRef x = true := by rcases fx with ⟨b, rfl⟩ | rfl <;> rfl
  have ei : evE (FN (n + 1)) (.idx (.lst (.cons (.bl true) (.cons (.bl false) (.cons .non .nil)))) (.call "_law_next" (.cons (.var 0) (.cons (.int 3) .nil)))) (envD st f s 2) h = some (.ok x ((h ++ [Ob.lst [.bl true, .bl false, .non]]).set st (stO sc p z q))) := by
    rw [qE_idx, qE_lst, evLc ev_bl (evLc ev_bl (evLc ev_non evL0)), bnd_ok, if_pos (by simp [sizeLine_eq'])]
    simp only [Ev.newList, bnd_ok]
    rw [ev_call2 (ev_var (d := .ref st) rfl) ev_int e, bnd_ok]
    simp only [idxD]
    rw [set_ne (by omega), at_new0]
    simp only [List.getElem?_cons_zero, hx]
  have e3 : evSs (FN (n + 1)) pg.above WF fUlaw_drawn.body (startEn fUlaw_drawn [.ref st, .int f, .int s, .int 2]) h = some (.ret (.tup [Pk.plan (.jlit x), Pk.told f s (.jlit x)]) ((h ++ [Ob.lst [.bl true, .bl false, .non]]).set st (stO sc p z q))) :=
    drawn_pre (n + 1) h st f s 2 lf ls ((skip (pickF rfl (by decide))).trans ((skip (pickF rfl (by decide))).trans (hit (pickT rfl) (ret_ev (ev_tupL (evLc (ev_tupL (evLc ev_str (evLc (ev_tupL (evLc ev_str (evLc ei evL0)) (by simp)) (evLc (ev_var rfl) (evLc (ev_var rfl) evL0)))) (by simp)) (evLc (ev_var rfl) evL0)) (by simp))))))
  have nr : noRef (.tup [Pk.plan (.jlit x), Pk.told f s (.jlit x)]) = true := by rcases fx with ⟨b, rfl⟩ | rfl <;> rfl
  obtain ⟨H, eH, sH⟩ := gc_stp (i := i) hp nr (G := [Ob.lst [.bl true, .bl false, .non]]) (H := (h ++ [Ob.lst [.bl true, .bl false, .non]]).set st (stO sc p z q)) (by rw [List.set_append_left _ _ lt])
  exact ⟨x, H, fx, sH, by rw [run_of k_drawn, run_ret (d := fUlaw_drawn) rfl e3, eH]⟩
end
end Pl

set_option Elab.async false
set_option linter.all false
set_option maxRecDepth 100000
set_option autoImplicit false
set_option maxHeartbeats 0
/-! Pl39: the rows that the law makes. -/
namespace Pl
open PySem Ev PK Qe
theorem k_lmade : keys.lookup (Str.empty, ("_law_made" : Str)) = some fUlaw_made := by rfl
theorem eq_py {h : Hb} {a b : D} {pa pb : PyData} (n1 : scalar a = false) (ha : toPy 60 h a = some pa) (hb : toPy 60 h b = some pb) (sa : SeqAt.shaped pa = true) (sb : SeqAt.shaped pb = true) : eqD h a b = some (PyData.eqv pa pb) := by
  unfold eqD
  rw [if_neg (by rw [n1]; simp)]
  unfold deepEq
  rw [ha, hb]
  simp only []
  rw [if_pos ⟨sa, sb⟩]
abbrev envM (p : D) (m1 m2 : Nat) (a b c d : Option D) : En := [some p, some (.ref m1), some (.ref m2), a, b, c, d, none, none]
theorem lmade_start {p : D} {m1 m2 : Nat} : startEn fUlaw_made [p, .ref m1, .ref m2] = envM p m1 m2 none none none none := rfl
theorem lmade_end {n : Nat} {h G : Hb} {p : D} {m1 m2 k : Nat} {rows : List D} (e : evSs (FN n) pg.above WF fUlaw_made.body (envM p m1 m2 none none none none) h = some (.ret (.ref (h.length + k)) (h ++ G))) (hk : G[k]? = some (.lst rows)) (nr : noRef.noRefs rows = true) :
    (FN (n + 1)).run Str.empty "_law_made" [p, .ref m1, .ref m2] h = some (.ok (.ref h.length) (h ++ [.lst rows])) := by
  rw [run_of k_lmade, run_ret (d := fUlaw_made) (ds := [p, .ref m1, .ref m2]) rfl e]
  exact congrArg some (gc_list h G k rows hk nr)
theorem lmade_scanA (n : Nat) (h : Hb) (m1 m2 : Nat) : (FN (n + 1)).run Str.empty "_law_made" [scanA, .ref m1, .ref m2] h = some (.ok (.ref m1) h) := by
  have e : evSs (FN n) pg.above WF fUlaw_made.body (envM scanA m1 m2 none none none none) h = some (.ret (.ref m1) h) :=
    hit (wordT rfl) (ret_ev (by
      rw [qE_ite, qT_cmp, ev_idx (d := scanA) (e := .str "s0_a") rfl (by simp [scanA, idxD, ix_1]), bnd_ok, qE_str, bnd_ok]
      simp only [cmpD, eqD, scalar, and_self, if_true, scalEq, decide_true, bnd_ok]
      exact ev_var rfl))
  rw [run_of k_lmade, run_ret (d := fUlaw_made) (ds := [scanA, .ref m1, .ref m2]) rfl e]
  exact congrArg some (gc_same h _)
theorem lmade_scanB (n : Nat) (h : Hb) (m1 m2 : Nat) : (FN (n + 1)).run Str.empty "_law_made" [scanB, .ref m1, .ref m2] h = some (.ok (.ref m2) h) := by
  have e : evSs (FN n) pg.above WF fUlaw_made.body (envM scanB m1 m2 none none none none) h = some (.ret (.ref m2) h) :=
    hit (wordT rfl) (ret_ev (by
      rw [qE_ite, qT_cmp, ev_idx (d := scanB) (e := .str "s0_b") rfl (by simp [scanB, idxD, ix_1]), bnd_ok, qE_str, bnd_ok]
      have : decide (("s0_b" : Str) = ("s0_a" : Str)) = false := by decide
      simp only [cmpD, eqD, scalar, and_self, if_true, scalEq, this, bnd_ok]
      exact ev_var rfl))
  rw [run_of k_lmade, run_ret (d := fUlaw_made) (ds := [scanB, .ref m1, .ref m2]) rfl e]
  exact congrArg some (gc_same h _)
theorem lmade_keep (n : Nat) (h : Hb) (m1 m2 : Nat) : (FN (n + 1)).run Str.empty "_law_made" [keepP, .ref m1, .ref m2] h = some (.ok (.ref h.length) (h ++ [.lst []])) :=
  lmade_end (k := 0) ((skip (wordF rfl (by decide))).trans (hit (wordT rfl) (ret_ev (by rw [qE_lst, qL_nil, bnd_ok, if_pos (by simp)]; rfl)))) rfl rfl
theorem ev_addL {F : Fn} {ρ : En} {h h1 h2 : Hb} {e1 e2 : Ex} {a b : Nat} {xs ys : List D} (e : evE F e1 ρ h = some (.ok (.ref a) h1)) (e' : evE F e2 ρ h1 = some (.ok (.ref b) h2)) (ha : h2[a]? = some (.lst xs)) (hb : h2[b]? = some (.lst ys)) (l : xs.length + ys.length ≤ sizeLine) :
    evE F (.bin .Add e1 e2) ρ h = some (.ok (.ref h2.length) (h2 ++ [.lst (xs ++ ys)])) := by
  rw [qE_bin, e, bnd_ok, e', bnd_ok]
  simp only [binD, ha, hb, if_pos l, nvRes]
theorem lmade_all (n : Nat) (h : Hb) (m1 m2 : Nat) (A B : List D) (h1 : h[m1]? = some (.lst A)) (h2 : h[m2]? = some (.lst B)) (l : A.length + B.length ≤ sizeLine) (nr : noRef.noRefs (A ++ B) = true) : (FN (n + 2)).run Str.empty "_law_made" [allP, .ref m1, .ref m2] h = some (.ok (.ref h.length) (h ++ [.lst (A ++ B)])) :=
  lmade_end (n := n + 1) (k := 0) ((skip (wordF rfl (by decide))).trans ((skip (wordF rfl (by decide))).trans ((skip (wordF rfl (by decide))).trans ((skip (wordF rfl (by decide))).trans (hit (wordT rfl) (ret_ev (ev_addL
    (ev_call3 (d1 := scanA) (ev_idx (d := allP) rfl (by simp [allP, idxD, ix_1])) (ev_var rfl) (ev_var rfl) (lmade_scanA n h m1 m2))
    (ev_call3 (d1 := scanB) (ev_idx (d := allP) rfl (by simp [allP, idxD, ix_2])) (ev_var rfl) (ev_var rfl) (lmade_scanB n h m1 m2)) h1 h2 l))))))) rfl nr
theorem lmade_allAll (n : Nat) (h : Hb) (m1 m2 : Nat) (A B : List D) (h1 : h[m1]? = some (.lst A)) (h2 : h[m2]? = some (.lst B)) (l : A.length + B.length + A.length ≤ sizeLine) (nr : noRef.noRefs (A ++ B) = true) (nr2 : noRef.noRefs ((A ++ B) ++ A) = true) : (FN (n + 3)).run Str.empty "_law_made" [allAll, .ref m1, .ref m2] h = some (.ok (.ref h.length) (h ++ [.lst ((A ++ B) ++ A)])) :=
  lmade_end (n := n + 2) (k := 1) (G := [.lst (A ++ B), .lst ((A ++ B) ++ A)]) ((skip (wordF rfl (by decide))).trans ((skip (wordF rfl (by decide))).trans ((skip (wordF rfl (by decide))).trans ((skip (wordF rfl (by decide))).trans (hit (wordT rfl) (ret_ev (by
    have := ev_addL (xs := A ++ B) (ys := A)
      (ev_call3 (F := FN (n + 2)) (ρ := envM allAll m1 m2 none none none none) (e1 := .idx (.var 0) (.int 1)) (e2 := .var 1) (e3 := .var 2) (d1 := allP) (ev_idx (d := allAll) rfl (by simp [allAll, idxD, ix_1])) (ev_var rfl) (ev_var rfl) (lmade_all n h m1 m2 A B h1 h2 (by omega) nr))
      (ev_call3 (e1 := .idx (.var 0) (.int 2)) (e2 := .var 1) (e3 := .var 2) (d1 := scanA) (ev_idx (d := allAll) rfl (by simp [allAll, idxD, ix_2])) (ev_var rfl) (ev_var rfl) (lmade_scanA (n + 1) _ m1 m2)) (at_last _ _) (at_old h1) (by simp only [List.length_append]; omega)
    rw [this]
    simp only [List.append_assoc, List.length_append, List.length_cons, List.length_nil]
    rfl))))))) rfl nr2
section
variable (n : Nat) (h : Hb) (m1 m2 : Nat) (A B : List D) (h1 : h[m1]? = some (.lst A)) (h2 : h[m2]? = some (.lst B)) (ra : ∀ d ∈ A, RowS d) (rb : ∀ d ∈ B, RowS d)
include h1 h2 ra rb
/-- the loop of a cross -/
theorem lmade_pairs (p : D) (hs : (pairsT A B).length ≤ sizeLine) : ∃ v k G, evSs (FN n) pg.above WF (.cons (.asg (.tg (.nm 5)) (.lst .nil))
 (.cons (.fors (.nm 6) (.val (.var 1))
 (.cons (.asg (.tg (.nm 5)) (.bin .Add (.var 5) (.comp true (.nm 8) (.val (.var 2)) .yes (.bin .Add (.var 6) (.var 8)))))
 .nil))
 (.cons (.ret (.var 5))
 .nil))) (envM p m1 m2 none none none none) h = some (.ret (.ref (h.length + k)) (h ++ G)) ∧ G[k]? = some (.lst (pairsT A B)) ∧ v = (none : Option D) := by
  have e1 : evS (FN n) pg.above WF (.asg (.tg (.nm 5)) (.lst .nil)) (envM p m1 m2 none none none none) h = some (.nx (envM p m1 m2 none none (some (.ref h.length)) none) (h ++ [.lst []])) := by
    rw [qS_asg_tg, qE_lst, qL_nil, bnd_ok, if_pos (by simp)]; rfl
  obtain ⟨ρ', h', e2, v, k, G, rfl, rfl, hk⟩ := fors_fold (F := FN n) (U := pg.above) (Wf := WF) (J := .lst m1) (g := .nm 6) (it := .val (.var 1)) (b := (.cons (.asg (.tg (.nm 5)) (.bin .Add (.var 5) (.comp true (.nm 8) (.val (.var 2)) .yes (.bin .Add (.var 6) (.var 8)))))
 .nil)) (ds := A)
    (I := fun s ρ H => ∃ v k G, ρ = envM p m1 m2 none none (some (.ref (h.length + k))) v ∧ H = h ++ G ∧ G[k]? = some (.lst (pairsT s B)))
    (ρ := envM p m1 m2 none none (some (.ref h.length)) none) (h := h ++ [.lst []])
    (by rw [qI_val, ev_var (d := .ref m1) rfl]; simp only [bnd_ok, items_of (at_old h1)]; rfl) (size_lst (at_old h1)) ⟨none, 0, [.lst []], rfl, rfl, rfl⟩ (fun s ρ H i j => by obtain ⟨v, k, G, -, rfl, -⟩ := i; exact at_lst (at_old h1) j)
    (fun s ρ H d i ht => by
      obtain ⟨v, k, G, rfl, rfl, hk⟩ := i
      obtain ⟨t, ht⟩ := ht
      have hin : d ∈ A := by rw [ht]; simp
      have len := congrArg (fun z => (pairsT z B).length) ht
      simp only [pairsT, pairsP, List.flatMap_append, List.flatMap_cons, List.length_append] at len
      simp only [pairsT, pairsP] at hs
      have b1 := ev_comp (F := FN n) (ρ := envM p m1 m2 none none (some (.ref (h.length + k))) (some d)) (h := h ++ G) (x := true) (g := 8) (it := .var 2) (e := .bin .Add (.var 6) (.var 8)) (c := .yes) (m := m2) (ds := B) (P := fun _ => true) (f := addT d)
        (ev_var rfl) (at_old h2) (fun q hq => ⟨qT_yes, fun _ => ev_add rfl rfl (ra d hin).two.tup (rb q hq).two.tup⟩) (by simp only [List.length_map] at len; omega)
      have b2 := ev_addL (F := FN n) (ρ := envM p m1 m2 none none (some (.ref (h.length + k))) (some d)) (e1 := .var 5) (a := h.length + k) (xs := pairsT s B) (ev_var rfl) b1 (at_old (by rw [at_new]; exact hk)) (at_last _ _) (by simp only [pairsT, pairsP, List.length_map] at len ⊢; omega)
      refine ⟨_, envM p m1 m2 none none (some (.ref (h.length + (G.length + 1)))) (some d), h ++ (G ++ [Ob.lst ((B.filter fun _ => true).map (addT d)), Ob.lst (pairsT s B ++ (B.filter fun _ => true).map (addT d))]), rfl, ?_, some d, G.length + 1, _, rfl, rfl, ?_⟩
      · have b3 : evS (FN n) pg.above WF (.asg (.tg (.nm 5)) (.bin .Add (.var 5) (.comp true (.nm 8) (.val (.var 2)) .yes (.bin .Add (.var 6) (.var 8))))) (envM p m1 m2 none none (some (.ref (h.length + k))) (some d)) (h ++ G) = some (.nx (envM p m1 m2 none none (some (.ref (h.length + (G.length + 1)))) (some d)) (h ++ (G ++ [Ob.lst ((B.filter fun _ => true).map (addT d)), Ob.lst (pairsT s B ++ (B.filter fun _ => true).map (addT d))]))) := by
          rw [qS_asg_tg, b2]
          simp only [sB_ok, bindTg, List.append_assoc, List.length_append, List.length_cons, List.length_nil, List.cons_append, List.nil_append]
          rfl
        exact (ss_nx b3).trans qSs_nil
      · rw [at_new]
        simp only [pairsT, pairsP, List.flatMap_append, List.flatMap_cons, List.flatMap_nil, List.append_nil]
        rfl)
  exact ⟨none, k, G, (ss_nx e1).trans ((ss_nx e2).trans (ret_ev (ev_var rfl))), hk, rfl⟩
/-- the loop of a join -/
theorem lmade_loop (w : Str) (rest : List D) (O : Bool) (hw : decide (w = ("outer" : Str)) = O) (hs : (outersP A B eqC).length ≤ sizeLine) : ∃ k G, evSs (FN n) pg.above WF (.cons (.asg (.tg (.nm 4)) (.lst .nil))
 (.cons (.fors (.nm 6) (.val (.var 1))
 (.cons (.asg (.tg (.nm 5)) (.comp true (.nm 8) (.val (.var 2)) (.cmp .Eq (.idx (.var 6) (.int 1)) (.idx (.var 8) (.int 1))) (.bin .Add (.var 6) (.var 8))))
 (.cons (.ifs (.and (.cmp .Eq (.idx (.var 0) (.int 0)) (.str "outer")) (.cmp .Eq (.var 5) (.lst .nil)))
 (.cons (.asg (.tg (.nm 5)) (.lst (.cons (.bin .Add (.var 6) (.tup (.cons .non (.cons .non .nil)))) .nil)))
 .nil)
 .nil)
 (.cons (.asg (.tg (.nm 4)) (.bin .Add (.var 4) (.var 5)))
 .nil))))
 (.cons (.ret (.var 4))
 .nil))) (envM (.tup (.str w :: rest)) m1 m2 none none none none) h = some (.ret (.ref (h.length + k)) (h ++ G)) ∧ G[k]? = some (.lst (if O then outersP A B eqC else pairsP A B eqC)) := by
  have e1 : evS (FN n) pg.above WF (.asg (.tg (.nm 4)) (.lst .nil)) (envM (.tup (.str w :: rest)) m1 m2 none none none none) h = some (.nx (envM (.tup (.str w :: rest)) m1 m2 none (some (.ref h.length)) none none) (h ++ [.lst []])) := by
    rw [qS_asg_tg, qE_lst, qL_nil, bnd_ok, if_pos (by simp)]; rfl
  have sub : ∀ z : List D, (pairsP z B eqC).length ≤ (outersP z B eqC).length := by
    intro z
    induction z with
    | nil => simp [pairsP, outersP]
    | cons a z ih =>
      have e1 : pairsP (a :: z) B eqC = (B.filter (eqC a)).map (addT a) ++ pairsP z B eqC := rfl
      have e2 : outersP (a :: z) B eqC = outR B eqC a ++ outersP z B eqC := rfl
      rw [e1, e2, List.length_append, List.length_append]
      have : ((B.filter (eqC a)).map (addT a)).length ≤ (outR B eqC a).length := by
        unfold outR
        by_cases q : (B.filter (eqC a)).isEmpty
        · rw [if_pos q, List.isEmpty_iff.mp q]; simp
        · rw [if_neg q]; exact Nat.le_refl _
      omega
  obtain ⟨ρ', h', e2, u, v, k, G, rfl, rfl, hk⟩ := fors_fold (F := FN n) (U := pg.above) (Wf := WF) (J := .lst m1) (g := .nm 6) (it := .val (.var 1)) (b := (.cons (.asg (.tg (.nm 5)) (.comp true (.nm 8) (.val (.var 2)) (.cmp .Eq (.idx (.var 6) (.int 1)) (.idx (.var 8) (.int 1))) (.bin .Add (.var 6) (.var 8))))
 (.cons (.ifs (.and (.cmp .Eq (.idx (.var 0) (.int 0)) (.str "outer")) (.cmp .Eq (.var 5) (.lst .nil)))
 (.cons (.asg (.tg (.nm 5)) (.lst (.cons (.bin .Add (.var 6) (.tup (.cons .non (.cons .non .nil)))) .nil)))
 .nil)
 .nil)
 (.cons (.asg (.tg (.nm 4)) (.bin .Add (.var 4) (.var 5)))
 .nil)))) (ds := A)
    (I := fun s ρ H => ∃ u v k G, ρ = envM (.tup (.str w :: rest)) m1 m2 none (some (.ref (h.length + k))) u v ∧ H = h ++ G ∧ G[k]? = some (.lst (if O then outersP s B eqC else pairsP s B eqC)))
    (ρ := envM (.tup (.str w :: rest)) m1 m2 none (some (.ref h.length)) none none) (h := h ++ [.lst []])
    (by rw [qI_val, ev_var (d := .ref m1) rfl]; simp only [bnd_ok, items_of (at_old h1)]; rfl) (size_lst (at_old h1)) ⟨none, none, 0, [.lst []], rfl, rfl, by cases O <;> rfl⟩ (fun s ρ H i j => by obtain ⟨u, v, k, G, -, rfl, -⟩ := i; exact at_lst (at_old h1) j)
    (fun s ρ H d i ht => by
      obtain ⟨u, v, k, G, rfl, rfl, hk⟩ := i
      obtain ⟨t, ht⟩ := ht
      have hin : d ∈ A := by rw [ht]; simp
      have len := congrArg (fun z => (outersP z B eqC).length) ht
      simp only [outersP, List.flatMap_append, List.flatMap_cons, List.length_append] at len
      have subs := sub s
      have lenO : (outR B eqC d).length ≤ B.length + 1 := outR_len B eqC d
      simp only [outersP] at hs subs
      have fl : ((B.filter (eqC d)).map (addT d)).length ≤ (outR B eqC d).length := by
        unfold outR
        by_cases q : (B.filter (eqC d)).isEmpty
        · rw [if_pos q, List.isEmpty_iff.mp q]; simp
        · rw [if_neg q]; exact Nat.le_refl _
      have b1 := ev_comp (F := FN n) (ρ := envM (.tup (.str w :: rest)) m1 m2 none (some (.ref (h.length + k))) u (some d)) (h := h ++ G) (x := true) (g := 8) (it := .var 2) (e := .bin .Add (.var 6) (.var 8)) (c := .cmp .Eq (.idx (.var 6) (.int 1)) (.idx (.var 8) (.int 1))) (m := m2) (ds := B) (P := eqC d) (f := addT d)
        (ev_var rfl) (at_old h2) (fun q hq => ⟨by
          obtain ⟨s1, x, hd⟩ := (ra d hin).two
          obtain ⟨s2, y, hq'⟩ := (rb q hq).two
          rw [qT_cmp, ev_idx (d := d) (e := .int x) rfl (by rw [hd]; simp [idxD, ix_1]), bnd_ok, ev_idx (d := q) (e := .int y) rfl (by rw [hq']; simp [idxD, ix_1]), bnd_ok]
          simp only [cmpD, eqD, scalar, and_self, if_true, scalEq, eqC, hd, hq', col1], fun _ => ev_add rfl rfl (ra d hin).two.tup (rb q hq).two.tup⟩) (by rw [List.length_map] at fl; omega)
      have b2 : evS (FN n) pg.above WF (.asg (.tg (.nm 5)) (.comp true (.nm 8) (.val (.var 2)) (.cmp .Eq (.idx (.var 6) (.int 1)) (.idx (.var 8) (.int 1))) (.bin .Add (.var 6) (.var 8)))) (envM (.tup (.str w :: rest)) m1 m2 none (some (.ref (h.length + k))) u (some d)) (h ++ G) = some (.nx (envM (.tup (.str w :: rest)) m1 m2 none (some (.ref (h.length + k))) (some (.ref (h ++ G).length)) (some d)) ((h ++ G) ++ [.lst ((B.filter (eqC d)).map (addT d))])) := by
        rw [qS_asg_tg, b1]; rfl
      have rr : ∀ x ∈ (B.filter (eqC d)).map (addT d), rowOk x = true := fun x hx => by
        obtain ⟨q, hq, rfl⟩ := List.mem_map.mp hx
        exact (ra d hin).add (rb q (List.mem_filter.mp hq).1)
      -- what the pairs are behind the test
      have b3 : ∃ (k2 : Nat) (G2 : Hb) (rows : List D), evS (FN n) pg.above WF (.ifs (.and (.cmp .Eq (.idx (.var 0) (.int 0)) (.str "outer")) (.cmp .Eq (.var 5) (.lst .nil)))
 (.cons (.asg (.tg (.nm 5)) (.lst (.cons (.bin .Add (.var 6) (.tup (.cons .non (.cons .non .nil)))) .nil)))
 .nil)
 .nil) (envM (.tup (.str w :: rest)) m1 m2 none (some (.ref (h.length + k))) (some (.ref (h ++ G).length)) (some d)) ((h ++ G) ++ [.lst ((B.filter (eqC d)).map (addT d))]) = some (.nx (envM (.tup (.str w :: rest)) m1 m2 none (some (.ref (h.length + k))) (some (.ref k2)) (some d)) ((h ++ G) ++ G2)) ∧ ((h ++ G) ++ G2)[k2]? = some (.lst rows) ∧ rows = (if O then outR B eqC d else (B.filter (eqC d)).map (addT d)) := by
        have wt := word_test (F := FN n) (ρ := envM (.tup (.str w :: rest)) m1 m2 none (some (.ref (h.length + k))) (some (.ref (h ++ G).length)) (some d)) (h := (h ++ G) ++ [.lst ((B.filter (eqC d)).map (addT d))]) (x := 0) (v := "outer") (w := w) (ds := rest) rfl
        rw [hw] at wt
        cases O with
        | false =>
          refine ⟨(h ++ G).length, [.lst ((B.filter (eqC d)).map (addT d))], _, (ifs_f (by rw [qT_and, wt, bnd_ok])).trans qSs_nil, at_last _ _, rfl⟩
        | true =>
          have en := ev_eqNil (F := FN n) (ρ := envM (.tup (.str w :: rest)) m1 m2 none (some (.ref (h.length + k))) (some (.ref (h ++ G).length)) (some d)) (x := 5) rfl (at_last (h ++ G) (.lst ((B.filter (eqC d)).map (addT d)))) rr
          by_cases q : (B.filter (eqC d)).isEmpty
          · have zm : ((B.filter (eqC d)).map (addT d)).isEmpty = true := by simpa using q
            rw [zm] at en
            refine ⟨((h ++ G) ++ [Ob.lst ((B.filter (eqC d)).map (addT d))] ++ [Ob.lst []]).length, [.lst ((B.filter (eqC d)).map (addT d)), .lst [], .lst [addT d nn]], _, (ifs_t (by rw [qT_and, wt, bnd_ok]; exact en)).trans ?_, ?_, rfl⟩
            · have ea : evE (FN n) (.lst (.cons (.bin .Add (.var 6) (.tup (.cons .non (.cons .non .nil)))) .nil)) (envM (.tup (.str w :: rest)) m1 m2 none (some (.ref (h.length + k))) (some (.ref (h ++ G).length)) (some d)) ((h ++ G) ++ [.lst ((B.filter (eqC d)).map (addT d))] ++ [.lst []]) = some (.ok (.ref ((h ++ G) ++ [Ob.lst ((B.filter (eqC d)).map (addT d))] ++ [Ob.lst []]).length) (((h ++ G) ++ [.lst ((B.filter (eqC d)).map (addT d))] ++ [.lst []]) ++ [.lst [addT d nn]])) := by
                have eb : evE (FN n) (.bin .Add (.var 6) (.tup (.cons .non (.cons .non .nil)))) (envM (.tup (.str w :: rest)) m1 m2 none (some (.ref (h.length + k))) (some (.ref (h ++ G).length)) (some d)) ((h ++ G) ++ [.lst ((B.filter (eqC d)).map (addT d))] ++ [.lst []]) = some (.ok (addT d nn) ((h ++ G) ++ [.lst ((B.filter (eqC d)).map (addT d))] ++ [.lst []])) := by
                  obtain ⟨s1, x, hd⟩ := (ra d hin).two
                  rw [qE_bin, ev_var (d := d) rfl, bnd_ok, ev_tupL (evLc ev_non (evLc ev_non evL0)) (by simp), bnd_ok, hd]
                  simp only [binD]
                  rw [if_pos ⟨by simp, by simp [sizeLine_eq']⟩]
                  rfl
                rw [qE_lst, evL1 eb, bnd_ok, if_pos (by simp [sizeLine_eq'])]
                rfl
              have ec : evS (FN n) pg.above WF (.asg (.tg (.nm 5)) (.lst (.cons (.bin .Add (.var 6) (.tup (.cons .non (.cons .non .nil)))) .nil))) (envM (.tup (.str w :: rest)) m1 m2 none (some (.ref (h.length + k))) (some (.ref (h ++ G).length)) (some d)) ((h ++ G) ++ [.lst ((B.filter (eqC d)).map (addT d))] ++ [.lst []]) = some (.nx (envM (.tup (.str w :: rest)) m1 m2 none (some (.ref (h.length + k))) (some (.ref ((h ++ G) ++ [Ob.lst ((B.filter (eqC d)).map (addT d))] ++ [Ob.lst []]).length)) (some d)) ((h ++ G) ++ [.lst ((B.filter (eqC d)).map (addT d)), .lst [], .lst [addT d nn]])) := by
                rw [qS_asg_tg, ea]
                simp only [sB_ok, bindTg, List.append_assoc, List.cons_append, List.nil_append]
                rfl
              exact (ss_nx ec).trans qSs_nil
            · have z : outR B eqC d = [addT d nn] := by unfold outR; rw [if_pos q]
              rw [if_pos rfl, z]
              have := at_last (h ++ G ++ [Ob.lst ((B.filter (eqC d)).map (addT d))] ++ [Ob.lst []]) (.lst [addT d nn])
              rw [← this]
              simp only [List.append_assoc, List.cons_append, List.nil_append]
          · have zm : ((B.filter (eqC d)).map (addT d)).isEmpty = false := by simpa using q
            rw [zm] at en
            have z : outR B eqC d = (B.filter (eqC d)).map (addT d) := by unfold outR; rw [if_neg q]
            refine ⟨(h ++ G).length, [.lst ((B.filter (eqC d)).map (addT d)), .lst []], _, (ifs_f (by rw [qT_and, wt, bnd_ok]; exact en)).trans ?_, ?_, rfl⟩
            · rw [qSs_nil, List.append_assoc]; rfl
            · rw [if_pos rfl, z, at_new0]; rfl
      obtain ⟨k2, G2, rows, b4, hk2, hrows⟩ := b3
      have b5 : evE (FN n) (.bin .Add (.var 4) (.var 5)) (envM (.tup (.str w :: rest)) m1 m2 none (some (.ref (h.length + k))) (some (.ref k2)) (some d)) ((h ++ G) ++ G2) = some (.ok (.ref ((h ++ G) ++ G2).length) (((h ++ G) ++ G2) ++ [.lst ((if O then outersP s B eqC else pairsP s B eqC) ++ rows)])) :=
        ev_addL (ev_var rfl) (ev_var rfl) (at_old (by rw [at_new]; exact hk)) hk2 (by
          rw [hrows]
          cases O
          · simp only [Bool.false_eq_true, if_false]; omega
          · simp only [if_true, outersP]; omega)
      refine ⟨_, envM (.tup (.str w :: rest)) m1 m2 none (some (.ref (h.length + (G ++ G2).length))) (some (.ref k2)) (some d), h ++ (G ++ G2 ++ [Ob.lst ((if O then outersP s B eqC else pairsP s B eqC) ++ rows)]), rfl, ?_, some (.ref k2), some d, (G ++ G2).length, _, rfl, rfl, ?_⟩
      · have b6 : evS (FN n) pg.above WF (.asg (.tg (.nm 4)) (.bin .Add (.var 4) (.var 5))) (envM (.tup (.str w :: rest)) m1 m2 none (some (.ref (h.length + k))) (some (.ref k2)) (some d)) ((h ++ G) ++ G2) = some (.nx (envM (.tup (.str w :: rest)) m1 m2 none (some (.ref (h.length + (G ++ G2).length))) (some (.ref k2)) (some d)) (h ++ (G ++ G2 ++ [Ob.lst ((if O then outersP s B eqC else pairsP s B eqC) ++ rows)]))) := by
          rw [qS_asg_tg, b5]
          simp only [sB_ok, bindTg, List.append_assoc, List.length_append]
          rfl
        exact (ss_nx b2).trans ((ss_nx b4).trans ((ss_nx b6).trans qSs_nil))
      · rw [at_last, hrows]
        cases O
        · simp only [Bool.false_eq_true, if_false, pairsP, List.flatMap_append, List.flatMap_cons, List.flatMap_nil, List.append_nil]
        · simp only [if_true, outersP, List.flatMap_append, List.flatMap_cons, List.flatMap_nil, List.append_nil])
  exact ⟨k, G, (ss_nx e1).trans ((ss_nx e2).trans (ret_ev (ev_var rfl))), hk⟩
end
end Pl

set_option Elab.async false
set_option linter.all false
set_option maxRecDepth 100000
set_option autoImplicit false
set_option maxHeartbeats 0
/-! Pl40: the rows that the law makes of each plan. -/
namespace Pl
open PySem Ev PK Qe
theorem ev_compH {F : Fn} {ρ : En} {h h' : Hb} {x : Bool} {g : Nat} {it e : Ex} {c : Tx} {m : Nat} {ds : List D} {P : D → Bool} {f : D → D} (hi : evE F it ρ h = some (.ok (.ref m) h')) (hm : h'[m]? = some (.lst ds))
    (hb : ∀ d ∈ ds, evT F c (setVar (Ev.wipe ρ [g]) g d) h' = some (.ok (P d) h') ∧ (P d = true → evE F e (setVar (Ev.wipe ρ [g]) g d) h' = some (.ok (f d) h'))) (hl : (ds.filter P).length ≤ sizeLine) :
    evE F (.comp x (.nm g) (.val it) c e) ρ h = some (.ok (.ref h'.length) (h' ++ [.lst ((ds.filter P).map f)])) := by
  have it1 : evI F (.val it) ρ h = some (.ok (.lst m) h') := by
    rw [qI_val, hi]; simp [bnd_ok, items, hm]
  rw [qE_comp, it1, bnd_ok]
  have key := comp_all (J := .lst m) (g := .nm g) (c := evT F c) (e := evE F e) (ρ := Ev.wipe ρ (Tg.nm g).slots) (h := h') (ds := ds) (p := P) (f := f) (at_lst hm) (size_lst hm) (fun d hd => ⟨_, rfl, (hb d hd).1, (hb d hd).2⟩) [] (by simpa using hl)
  rw [key]
  cases x <;> rfl
theorem filter_true {α : Type} (l : List α) : l.filter (fun _ => true) = l := List.filter_eq_self.mpr fun _ _ => rfl
/-- the values of a pick -/
def picks (A B : List D) : List D := (pairsT A B).map fun d => .tup [cell1 d]
def row01 : List D := [.tup [.int 0], .tup [.int 1]]
def colInts (C : List D) : List Int := C.map col1
def Pk.law (A B : List D) : Pk → List D
  | .dist => row01.filter fun r => decide (r ∈ picks A B)
  | .grp => ([0, 1].filter fun v => (colInts ((A ++ B) ++ A)).any (· == v)).map fun v => .tup [.int v, .int ((colInts ((A ++ B) ++ A)).count v)]
  | k => k.rows A B
theorem lit_eq (h : Hb) (c : D) (pc : PyData) (v : Bool) (n1 : scalar c = false) (hc : toPy 60 h c = some pc) (sc : SeqAt.shaped pc = true) (e : PyData.eqv pc (.tuple [.str "literal", .bool true]) = v) : eqD h c (.tup [.str "literal", .bl true]) = some v := by
  rw [eq_py n1 hc (pb := .tuple [.str "literal", .bool true]) rfl sc (by decide +kernel), e]
/-- the test of the cross, at other plans -/
theorem or_lit {F : Fn} {p : D} {m1 m2 : Nat} {a b c d : Option D} {h : Hb} {w : Str} {q : D} {rest : List D} {v : Bool} (hp : p = .tup (.str w :: q :: rest)) (ne : w ≠ "cross") (e : eqD h q (.tup [.str "literal", .bl true]) = some v) :
    evT F (.or (.cmp .Eq (.idx (.var 0) (.int 0)) (.str "cross")) (.cmp .Eq (.idx (.var 0) (.int 1)) (.tup (.cons (.str "literal") (.cons (.bl true) .nil))))) (envM p m1 m2 a b c d) h = some (.ok v h) := by
  rw [qT_or, wordF (ds := q :: rest) (w := w) (by rw [hp]; rfl) ne, bnd_ok]
  show evT F _ _ _ = _
  rw [qT_cmp, ev_idx (d := p) (e := q) rfl (by rw [hp]; simp [idxD, ix_1]), bnd_ok, ev_tupL (evLc ev_str (evLc ev_bl evL0)) (by simp), bnd_ok]
  simp only [cmpD, e]
theorem lit_word {F : Fn} {p : D} {m1 m2 : Nat} {a b c d : Option D} {h : Hb} {w : Str} {ws rest : List D} {u : Bool} (hp : p = .tup (.str "join" :: .tup (.str w :: ws) :: rest)) (e : decide (w = ("literal" : Str)) = u) :
    evT F (.and (.cmp .Eq (.idx (.var 0) (.int 0)) (.str "join")) (.cmp .Eq (.idx (.idx (.var 0) (.int 1)) (.int 0)) (.str "literal"))) (envM p m1 m2 a b c d) h = some (.ok u h) := by
  rw [qT_and, wordT (ds := .tup (.str w :: ws) :: rest) (w := "join") (by rw [hp]; rfl), bnd_ok]
  show evT F _ _ _ = _
  rw [qT_cmp, qE_idx, ev_idx (d := p) (e := .tup (.str w :: ws)) rfl (by rw [hp]; simp [idxD, ix_1]), bnd_ok, qE_int, bnd_ok]
  simp only [idxD, ix_0, List.getElem?_cons_zero, bnd_ok, qE_str, cmpD, eqD, scalar, and_self, if_true, scalEq, e]
theorem not_join {F : Fn} {p : D} {m1 m2 : Nat} {a b c d : Option D} {h : Hb} {w : Str} {rest : List D} (hp : p = .tup (.str w :: rest)) (ne : w ≠ "join") :
    evT F (.and (.cmp .Eq (.idx (.var 0) (.int 0)) (.str "join")) (.cmp .Eq (.idx (.idx (.var 0) (.int 1)) (.int 0)) (.str "literal"))) (envM p m1 m2 a b c d) h = some (.ok false h) := by
  rw [qT_and, wordF (ds := rest) (w := w) (by rw [hp]; rfl) ne, bnd_ok]
theorem not_six {n : Nat} {h : Hb} {p : D} {m1 m2 : Nat} {w : Str} {rest : List D} {R : Option SR} (hp : p = .tup (.str w :: rest)) (n1 : w ≠ "scan") (n2 : w ≠ "keep") (n3 : w ≠ "pick") (n4 : w ≠ "distinct") (n5 : w ≠ "all") (n6 : w ≠ "group") {s1 s2 s3 s4 s5 s6 ss : SxL}
    (e : evSs (FN n) pg.above WF ss (envM p m1 m2 none none none none) h = R) :
    evSs (FN n) pg.above WF (.cons (.ifs (.cmp .Eq (.idx (.var 0) (.int 0)) (.str "scan")) s1 .nil) (.cons (.ifs (.cmp .Eq (.idx (.var 0) (.int 0)) (.str "keep")) s2 .nil) (.cons (.ifs (.cmp .Eq (.idx (.var 0) (.int 0)) (.str "pick")) s3 .nil) (.cons (.ifs (.cmp .Eq (.idx (.var 0) (.int 0)) (.str "distinct")) s4 .nil) (.cons (.ifs (.cmp .Eq (.idx (.var 0) (.int 0)) (.str "all")) s5 .nil) (.cons (.ifs (.cmp .Eq (.idx (.var 0) (.int 0)) (.str "group")) s6 .nil) ss)))))) (envM p m1 m2 none none none none) h = R := by
  subst hp
  exact (skip (wordF rfl n1)).trans ((skip (wordF rfl n2)).trans ((skip (wordF rfl n3)).trans ((skip (wordF rfl n4)).trans ((skip (wordF rfl n5)).trans ((skip (wordF rfl n6)).trans e)))))
section
variable (n : Nat) (h : Hb) (m1 m2 : Nat) (A B : List D) (h1 : h[m1]? = some (.lst A)) (h2 : h[m2]? = some (.lst B)) (ra : ∀ d ∈ A, RowS d) (rb : ∀ d ∈ B, RowS d) (la : A.length ≤ 2000) (lb : B.length ≤ 2000)
include h1 h2 ra rb la lb
theorem lmade_cross : (FN (n + 1)).run Str.empty "_law_made" [crossP, .ref m1, .ref m2] h = some (.ok (.ref h.length) (h ++ [.lst (pairsT A B)])) := by
  obtain ⟨-, k, G, e, hk, -⟩ := lmade_pairs n h m1 m2 A B h1 h2 ra rb crossP (pairs_small _ la lb)
  have or1 : evT (FN n) (.or (.cmp .Eq (.idx (.var 0) (.int 0)) (.str "cross")) (.cmp .Eq (.idx (.var 0) (.int 1)) (.tup (.cons (.str "literal") (.cons (.bl true) .nil))))) (envM crossP m1 m2 none none none none) h = some (.ok true h) := by
    rw [qT_or, wordT (w := "cross") (ds := [scanA, scanB]) rfl, bnd_ok]
  exact lmade_end (not_six (w := "cross") rfl (by decide) (by decide) (by decide) (by decide) (by decide) (by decide) (hit or1 e)) hk (rowsOk_noRefs (pairs_ok ra rb))
theorem lmade_jlit (x : D) (hx : Pk.fit (.jlit x)) : (FN (n + 1)).run Str.empty "_law_made" [joinP (.tup [.str "literal", x]), .ref m1, .ref m2] h = some (.ok (.ref h.length) (h ++ [.lst (pairsP A B fun _ _ => isT x)])) := by
  by_cases hT : x = .bl true
  · subst hT
    obtain ⟨-, k, G, e, hk, -⟩ := lmade_pairs n h m1 m2 A B h1 h2 ra rb (joinP (.tup [.str "literal", .bl true])) (pairs_small _ la lb)
    have or1 := or_lit (F := FN n) (p := joinP (.tup [.str "literal", .bl true])) (m1 := m1) (m2 := m2) (a := none) (b := none) (c := none) (d := none) (h := h) (w := "join") rfl (by decide) (lit_eq h (.tup [.str "literal", .bl true]) (.tuple [.str "literal", .bool true]) true rfl rfl (by decide +kernel) (by decide +kernel))
    exact lmade_end (not_six (w := "join") rfl (by decide) (by decide) (by decide) (by decide) (by decide) (by decide) (hit or1 e)) hk (rowsOk_noRefs (pairs_ok ra rb))
  · have tF : isT x = false := by
      rcases hx with ⟨b, rfl⟩ | rfl
      · cases b
        · rfl
        · exact absurd rfl hT
      · rfl
    have or1 : evT (FN n) (.or (.cmp .Eq (.idx (.var 0) (.int 0)) (.str "cross")) (.cmp .Eq (.idx (.var 0) (.int 1)) (.tup (.cons (.str "literal") (.cons (.bl true) .nil))))) (envM (joinP (.tup [.str "literal", x])) m1 m2 none none none none) h = some (.ok false h) := by
      rcases hx with ⟨b, rfl⟩ | rfl
      · cases b
        · exact or_lit (w := "join") rfl (by decide) (lit_eq h (.tup [.str "literal", .bl false]) (.tuple [.str "literal", .bool false]) false rfl rfl (by decide +kernel) (by decide +kernel))
        · exact absurd rfl hT
      · exact or_lit (w := "join") rfl (by decide) (lit_eq h (.tup [.str "literal", .non]) (.tuple [.str "literal", .none]) false rfl rfl (by decide +kernel) (by decide +kernel))
    rw [tF, pairs_false]
    exact lmade_end (k := 0) (G := [.lst []]) (not_six (w := "join") rfl (by decide) (by decide) (by decide) (by decide) (by decide) (by decide) ((skip or1).trans (hit (lit_word (w := "literal") rfl (by decide)) (ret_ev (by rw [qE_lst, qL_nil, bnd_ok, if_pos (by simp)]; rfl))))) rfl rfl
theorem lmade_jeq : (FN (n + 1)).run Str.empty "_law_made" [joinP condEq, .ref m1, .ref m2] h = some (.ok (.ref h.length) (h ++ [.lst (pairsP A B eqC)])) := by
  obtain ⟨k, G, e, hk⟩ := lmade_loop n h m1 m2 A B h1 h2 ra rb "join" [condEq, scanA, scanB] false (by decide) (outers_small _ la lb)
  have or1 := or_lit (F := FN n) (p := joinP condEq) (m1 := m1) (m2 := m2) (a := none) (b := none) (c := none) (d := none) (h := h) (w := "join") rfl (by decide) (lit_eq h condEq (.tuple [.str "binary", .str "=", .tuple [.str "column", .none, .str "1"], .tuple [.str "column", .none, .str "3"]]) false rfl rfl (by decide +kernel) (by decide +kernel))
  exact lmade_end (not_six (w := "join") rfl (by decide) (by decide) (by decide) (by decide) (by decide) (by decide) ((skip or1).trans ((skip (lit_word (w := "binary") rfl (by decide))).trans e))) hk (rowsOk_noRefs (pairs_ok ra rb))
theorem lmade_mat : (FN (n + 1)).run Str.empty "_law_made" [matP, .ref m1, .ref m2] h = some (.ok (.ref h.length) (h ++ [.lst (pairsP A B eqC)])) := by
  obtain ⟨k, G, e, hk⟩ := lmade_loop n h m1 m2 A B h1 h2 ra rb "match" [.tup [.tup [.int 1, .int 3]], scanA, scanB] false (by decide) (outers_small _ la lb)
  have or1 := or_lit (F := FN n) (p := matP) (m1 := m1) (m2 := m2) (a := none) (b := none) (c := none) (d := none) (h := h) (w := "match") rfl (by decide) (lit_eq h (.tup [.tup [.int 1, .int 3]]) (.tuple [.tuple [.int 1, .int 3]]) false rfl rfl (by decide +kernel) (by decide +kernel))
  exact lmade_end (not_six (w := "match") rfl (by decide) (by decide) (by decide) (by decide) (by decide) (by decide) ((skip or1).trans ((skip (not_join (w := "match") rfl (by decide))).trans e))) hk (rowsOk_noRefs (pairs_ok ra rb))
theorem lmade_out : (FN (n + 1)).run Str.empty "_law_made" [outerP, .ref m1, .ref m2] h = some (.ok (.ref h.length) (h ++ [.lst (outersP A B eqC)])) := by
  obtain ⟨k, G, e, hk⟩ := lmade_loop n h m1 m2 A B h1 h2 ra rb "outer" [condEq, scanA, scanB] true (by decide) (outers_small _ la lb)
  have or1 := or_lit (F := FN n) (p := outerP) (m1 := m1) (m2 := m2) (a := none) (b := none) (c := none) (d := none) (h := h) (w := "outer") rfl (by decide) (lit_eq h condEq (.tuple [.str "binary", .str "=", .tuple [.str "column", .none, .str "1"], .tuple [.str "column", .none, .str "3"]]) false rfl rfl (by decide +kernel) (by decide +kernel))
  exact lmade_end (not_six (w := "outer") rfl (by decide) (by decide) (by decide) (by decide) (by decide) (by decide) ((skip or1).trans ((skip (not_join (w := "outer") rfl (by decide))).trans e))) hk (rowsOk_noRefs (outers_ok ra rb))
theorem picks_len : (picks A B).length ≤ sizeLine := by rw [picks, List.length_map]; exact pairs_small _ la lb
theorem lmade_pick : (FN (n + 2)).run Str.empty "_law_made" [pickP, .ref m1, .ref m2] h = some (.ok (.ref h.length) (h ++ [.lst (picks A B)])) := by
  have ev := ev_compH (F := FN (n + 1)) (ρ := envM pickP m1 m2 none none none none) (h := h) (h' := h ++ [.lst (pairsT A B)]) (x := true) (g := 6) (it := .call "_law_made" (.cons (.idx (.var 0) (.int 2)) (.cons (.var 1) (.cons (.var 2) .nil)))) (c := .yes) (e := .tup (.cons (.idx (.var 6) (.int 1)) .nil)) (m := h.length) (ds := pairsT A B) (P := fun _ => true) (f := fun d => .tup [cell1 d])
    (ev_call3 (d1 := crossP) (ev_idx (d := pickP) rfl (by simp [pickP, idxD, ix_2])) (ev_var rfl) (ev_var rfl) (lmade_cross n h m1 m2 A B h1 h2 ra rb la lb)) (at_last _ _)
    (fun d hd => ⟨qT_yes, fun _ => by
      obtain ⟨s, i, t, j, rfl⟩ := pairs_row4 (fun d hd => (ra d hd).two) (fun d hd => (rb d hd).two) d hd
      exact ev_tupL (evLc (ev_idx (d := .tup [.str s, .int i, .str t, .int j]) (e := .int i) rfl (by simp [idxD, ix_1])) evL0) (by simp)⟩) (by rw [filter_true]; exact pairs_small _ la lb)
  rw [filter_true, List.append_assoc, List.length_append] at ev
  exact lmade_end (n := n + 1) (k := 1) (G := [.lst (pairsT A B), .lst (picks A B)]) ((skip (wordF rfl (by decide))).trans ((skip (wordF rfl (by decide))).trans (hit (wordT rfl) (ret_ev ev)))) rfl (rowsOk_noRefs (pick_ok ra rb))
theorem lmade_dist : (FN (n + 3)).run Str.empty "_law_made" [distP pickP, .ref m1, .ref m2] h = some (.ok (.ref h.length) (h ++ [.lst (Pk.law A B .dist)])) := by
  have e1 : evS (FN (n + 2)) pg.above WF (.asg (.tg (.nm 3)) (.call "_law_made" (.cons (.idx (.var 0) (.int 1)) (.cons (.var 1) (.cons (.var 2) .nil))))) (envM (distP pickP) m1 m2 none none none none) h = some (.nx (envM (distP pickP) m1 m2 (some (.ref h.length)) none none none) (h ++ [.lst (picks A B)])) := by
    rw [qS_asg_tg, ev_call3 (d1 := pickP) (ev_idx (d := distP pickP) rfl (by simp [distP, idxD, ix_1])) (ev_var (d := .ref m1) rfl) (ev_var (d := .ref m2) rfl) (lmade_pick n h m1 m2 A B h1 h2 ra rb la lb)]
    rfl
  have el : evE (FN (n + 2)) (.lst (.cons (.tup (.cons (.int 0) .nil)) (.cons (.tup (.cons (.int 1) .nil)) .nil))) (envM (distP pickP) m1 m2 (some (.ref h.length)) none none none) (h ++ [.lst (picks A B)]) = some (.ok (.ref (h ++ [Ob.lst (picks A B)]).length) ((h ++ [.lst (picks A B)]) ++ [.lst row01])) := by
    rw [qE_lst, evLc (ev_tupL (evLc ev_int evL0) (by simp)) (evLc (ev_tupL (evLc ev_int evL0) (by simp)) evL0), bnd_ok, if_pos (by simp [sizeLine_eq'])]
    rfl
  have ev := ev_compH (F := FN (n + 2)) (ρ := envM (distP pickP) m1 m2 (some (.ref h.length)) none none none) (x := true) (g := 6) (c := .cmp .In (.var 6) (.var 3)) (e := .var 6) (ds := row01) (P := fun r => decide (r ∈ picks A B)) (f := id) el (at_last _ _)
    (fun d hd => ⟨by
      have rd : rowOk d = true := by
        simp only [row01, List.mem_cons, List.not_mem_nil, or_false] at hd
        rcases hd with rfl | rfl <;> rfl
      rw [qT_cmp, ev_var (d := d) rfl, bnd_ok, ev_var (d := .ref h.length) rfl, bnd_ok]
      simp only [cmpD, in_rows (at_old (at_last h (.lst (picks A B)))) rd (pick_ok ra rb)]
      try rfl, fun _ => ev_var rfl⟩) (by
      have := List.length_filter_le (fun r => decide (r ∈ picks A B)) row01
      simp only [row01, List.length_cons, List.length_nil] at this ⊢
      rw [sizeLine_eq']; omega)
  rw [List.map_id, List.append_assoc, List.append_assoc, List.length_append] at ev
  exact lmade_end (n := n + 2) (k := 2) (G := [.lst (picks A B), .lst row01, .lst (Pk.law A B .dist)]) ((skip (wordF rfl (by decide))).trans ((skip (wordF rfl (by decide))).trans ((skip (wordF rfl (by decide))).trans (hit (wordT rfl) ((ss_nx e1).trans (ret_ev (by rw [ev]; rfl))))))) rfl (rowsOk_noRefs fun d hd => by
    have hd := (List.mem_filter.mp hd).1
    simp only [row01, List.mem_cons, List.not_mem_nil, or_false] at hd
    rcases hd with rfl | rfl <;> rfl)
omit h1 h2 ra rb la lb in
theorem asInts_map : ∀ is : List Int, asInts (is.map D.int) = some is
  | [] => rfl
  | i :: is => by simp only [List.map_cons, asInts, asInts_map is, Option.map]
theorem lmade_grp : (FN (n + 4)).run Str.empty "_law_made" [groupP, .ref m1, .ref m2] h = some (.ok (.ref h.length) (h ++ [.lst (Pk.law A B .grp)])) := by
  have rC : ∀ d ∈ (A ++ B) ++ A, RowS d := fun d hd => by
    rcases List.mem_append.mp hd with hd | hd
    · rcases List.mem_append.mp hd with hd | hd
      · exact ra d hd
      · exact rb d hd
    · exact ra d hd
  have lC : ((A ++ B) ++ A).length ≤ 6000 := by simp only [List.length_append]; omega
  have e1 : evS (FN (n + 3)) pg.above WF (.asg (.tg (.nm 3)) (.call "_law_made" (.cons (.idx (.var 0) (.int 4)) (.cons (.var 1) (.cons (.var 2) .nil))))) (envM groupP m1 m2 none none none none) h = some (.nx (envM groupP m1 m2 (some (.ref h.length)) none none none) (h ++ [.lst ((A ++ B) ++ A)])) := by
    rw [qS_asg_tg, ev_call3 (d1 := allAll) (ev_idx (d := groupP) rfl (by simp [groupP, planG, idxD, ix_4])) (ev_var (d := .ref m1) rfl) (ev_var (d := .ref m2) rfl) (lmade_allAll n h m1 m2 A B h1 h2 (by rw [sizeLine_eq']; omega) (rowsOk_noRefs fun d hd => (List.mem_append.mp hd).elim (fun m => (ra d m).ok) fun m => (rb d m).ok) (rowsOk_noRefs fun d hd => (rC d hd).ok))]
    rfl
  have e2 := ev_comp (F := FN (n + 3)) (ρ := envM groupP m1 m2 (some (.ref h.length)) none none none) (h := h ++ [.lst ((A ++ B) ++ A)]) (x := true) (g := 6) (it := .var 3) (c := .yes) (e := .idx (.var 6) (.int 1)) (m := h.length) (ds := (A ++ B) ++ A) (P := fun _ => true) (f := fun d => .int (col1 d)) (ev_var rfl) (at_last _ _)
    (fun d hd => ⟨qT_yes, fun _ => by
      obtain ⟨s, i, rfl, -⟩ := rC d hd
      exact ev_idx (d := .tup [.str s, .int i]) rfl (by simp [idxD, ix_1, col1])⟩) (by rw [filter_true, sizeLine_eq']; omega)
  have em : ((A ++ B) ++ A).map (fun d => D.int (col1 d)) = (colInts ((A ++ B) ++ A)).map .int := by rw [colInts, List.map_map]; rfl
  rw [filter_true, em] at e2
  have e3 : evS (FN (n + 3)) pg.above WF (.asg (.tg (.nm 4)) (.comp true (.nm 6) (.val (.var 3)) .yes (.idx (.var 6) (.int 1)))) (envM groupP m1 m2 (some (.ref h.length)) none none none) (h ++ [.lst ((A ++ B) ++ A)]) = some (.nx (envM groupP m1 m2 (some (.ref h.length)) (some (.ref (h ++ [Ob.lst ((A ++ B) ++ A)]).length)) none none) ((h ++ [.lst ((A ++ B) ++ A)]) ++ [.lst ((colInts ((A ++ B) ++ A)).map .int)])) := by
    rw [qS_asg_tg, e2]; rfl
  have el : evE (FN (n + 3)) (.lst (.cons (.int 0) (.cons (.int 1) .nil))) (envM groupP m1 m2 (some (.ref h.length)) (some (.ref (h ++ [Ob.lst ((A ++ B) ++ A)]).length)) none none) ((h ++ [.lst ((A ++ B) ++ A)]) ++ [.lst ((colInts ((A ++ B) ++ A)).map .int)]) = some (.ok (.ref ((h ++ [Ob.lst ((A ++ B) ++ A)]) ++ [Ob.lst ((colInts ((A ++ B) ++ A)).map .int)]).length) (((h ++ [.lst ((A ++ B) ++ A)]) ++ [.lst ((colInts ((A ++ B) ++ A)).map .int)]) ++ [.lst (([0, 1] : List Int).map .int)])) := by
    rw [qE_lst, evLc ev_int (evLc ev_int evL0), bnd_ok, if_pos (by simp [sizeLine_eq'])]
    rfl
  have hf : (((h ++ [Ob.lst ((A ++ B) ++ A)]) ++ [Ob.lst ((colInts ((A ++ B) ++ A)).map .int)]) ++ [Ob.lst (([0, 1] : List Int).map .int)])[(h ++ [Ob.lst ((A ++ B) ++ A)]).length]? = some (.lst ((colInts ((A ++ B) ++ A)).map .int)) := at_old (at_last _ _)
  have ev := ev_compH (F := FN (n + 3)) (ρ := envM groupP m1 m2 (some (.ref h.length)) (some (.ref (h ++ [Ob.lst ((A ++ B) ++ A)]).length)) none none) (x := true) (g := 7) (c := .cmp .In (.var 7) (.var 4)) (e := .tup (.cons (.var 7) (.cons (.bm .count (.var 4) (.cons (.var 7) .nil)) .nil))) (ds := ([0, 1] : List Int).map .int) (P := fun r => match r with | .int i => (colInts ((A ++ B) ++ A)).any (· == i) | _ => false) (f := fun r => match r with | .int i => .tup [.int i, .int ((colInts ((A ++ B) ++ A)).count i)] | _ => .non) el (at_last _ _)
    (fun d hd => by
      obtain ⟨i, -, rfl⟩ := List.mem_map.mp hd
      refine ⟨?_, fun _ => ?_⟩
      · rw [qT_cmp, ev_var (d := .int i) rfl, bnd_ok, ev_var (d := .ref (h ++ [Ob.lst ((A ++ B) ++ A)]).length) rfl, bnd_ok]
        have fa : ((colInts ((A ++ B) ++ A)).map D.int).all flat = true := by
          rw [List.all_map]; exact List.all_eq_true.mpr fun x _ => rfl
        simp only [cmpD, inD, items_of hf]
        rw [if_pos ⟨rfl, fa⟩, List.any_map]
        rfl
      · have ec : evE (FN (n + 3)) (.bm .count (.var 4) (.cons (.var 7) .nil)) (setVar (Ev.wipe (envM groupP m1 m2 (some (.ref h.length)) (some (.ref (h ++ [Ob.lst ((A ++ B) ++ A)]).length)) none none) [7]) 7 (.int i)) (((h ++ [Ob.lst ((A ++ B) ++ A)]) ++ [Ob.lst ((colInts ((A ++ B) ++ A)).map .int)]) ++ [Ob.lst (([0, 1] : List Int).map .int)]) = some (.ok (.int ((colInts ((A ++ B) ++ A)).count i)) (((h ++ [Ob.lst ((A ++ B) ++ A)]) ++ [Ob.lst ((colInts ((A ++ B) ++ A)).map .int)]) ++ [Ob.lst (([0, 1] : List Int).map .int)])) := by
          rw [qE_bm, ev_var (d := .ref (h ++ [Ob.lst ((A ++ B) ++ A)]).length) rfl, bnd_ok]
          simp only [bmT, items_of hf, Option.isSome, if_true]
          rw [evL1 (ev_var (d := .int i) rfl), bnd_ok]
          simp only [bmD, items_of hf, asInts_map]
        exact ev_tupL (evLc (ev_var (d := .int i) rfl) (evLc ec evL0)) (by simp)) (by
      have := List.length_filter_le (fun r : D => match r with | .int i => (colInts ((A ++ B) ++ A)).any (· == i) | _ => false) (([0, 1] : List Int).map .int)
      simp only [List.length_map, List.length_cons, List.length_nil] at this
      rw [sizeLine_eq']; omega)
  have out : ((([0, 1] : List Int).map D.int).filter (fun r => match r with | .int i => (colInts ((A ++ B) ++ A)).any (· == i) | _ => false)).map (fun r => match r with | .int i => D.tup [.int i, .int ((colInts ((A ++ B) ++ A)).count i)] | _ => .non) = Pk.law A B .grp := by
    show _ = (([0, 1] : List Int).filter fun v => (colInts ((A ++ B) ++ A)).any (· == v)).map fun v => D.tup [.int v, .int ((colInts ((A ++ B) ++ A)).count v)]
    rw [List.filter_map, List.map_map]
    rfl
  rw [out] at ev
  refine lmade_end (n := n + 3) (k := 3) (G := [.lst ((A ++ B) ++ A), .lst ((colInts ((A ++ B) ++ A)).map .int), .lst (([0, 1] : List Int).map .int), .lst (Pk.law A B .grp)]) ((skip (wordF rfl (by decide))).trans ((skip (wordF rfl (by decide))).trans ((skip (wordF rfl (by decide))).trans ((skip (wordF rfl (by decide))).trans ((skip (wordF rfl (by decide))).trans (hit (wordT rfl) ((ss_nx e1).trans ((ss_nx e3).trans (ret_ev (by
    rw [ev]
    simp only [List.append_assoc, List.length_append, List.length_cons, List.length_nil, List.cons_append, List.nil_append])))))))))) rfl (rowsOk_noRefs fun d hd => by
    have hd : d ∈ (([0, 1] : List Int).filter fun v => (colInts ((A ++ B) ++ A)).any (· == v)).map fun v => D.tup [.int v, .int ((colInts ((A ++ B) ++ A)).count v)] := hd
    obtain ⟨v, -, rfl⟩ := List.mem_map.mp hd
    simp [rowOk, cellOk])
theorem lmade_pk (k : Pk) (hk : k.fit) : ∃ m H, (FN (n + 10)).run Str.empty "_law_made" [k.plan, .ref m1, .ref m2] h = some (.ok (.ref m) H) ∧ m = h.length ∧ H = h ++ [.lst (k.law A B)] := by
  cases k with
  | cross => exact ⟨_, _, lmade_cross (n + 9) h m1 m2 A B h1 h2 ra rb la lb, rfl, rfl⟩
  | keep => exact ⟨_, _, lmade_keep (n + 9) h m1 m2, rfl, rfl⟩
  | jlit x => exact ⟨_, _, lmade_jlit (n + 9) h m1 m2 A B h1 h2 ra rb la lb x hk, rfl, rfl⟩
  | jeq => exact ⟨_, _, lmade_jeq (n + 9) h m1 m2 A B h1 h2 ra rb la lb, rfl, rfl⟩
  | mat => exact ⟨_, _, lmade_mat (n + 9) h m1 m2 A B h1 h2 ra rb la lb, rfl, rfl⟩
  | out => exact ⟨_, _, lmade_out (n + 9) h m1 m2 A B h1 h2 ra rb la lb, rfl, rfl⟩
  | all => exact ⟨_, _, lmade_all (n + 8) h m1 m2 A B h1 h2 (by rw [sizeLine_eq']; omega) (rowsOk_noRefs fun d hd => (List.mem_append.mp hd).elim (fun m => (ra d m).ok) fun m => (rb d m).ok), rfl, rfl⟩
  | dist => exact ⟨_, _, lmade_dist (n + 7) h m1 m2 A B h1 h2 ra rb la lb, rfl, rfl⟩
  | grp => exact ⟨_, _, lmade_grp (n + 6) h m1 m2 A B h1 h2 ra rb la lb, rfl, rfl⟩
end
end Pl

set_option Elab.async false
set_option linter.all false
set_option maxRecDepth 100000
set_option autoImplicit false
set_option maxHeartbeats 0
/-! Pl41: the law's rows are those of the runner, and so are the numbers (no program in sight). -/
namespace Pl
open PySem Ev PK Qe
theorem rowsN_snoc (f : Nat) : rowsN (f + 1) = rowsN f ++ [rowI (.int (f : Int))] := by
  simp only [rowsN, numsN, List.range_succ, List.map_append, List.map_cons, List.map_nil]
theorem rowsN_bin (f : Nat) : ∀ d ∈ rowsN f, col1 d = 0 ∨ col1 d = 1 := fun d hd => by
  simp only [rowsN, numsN, List.mem_map] at hd
  obtain ⟨x, ⟨k, -, rfl⟩, rfl⟩ := hd
  show (k : Int) % 2 = 0 ∨ (k : Int) % 2 = 1
  omega
theorem rowsN_head (f : Nat) : ∀ d t, rowsN f = d :: t → col1 d = 0 := fun d t e => by
  cases f with
  | zero => simp [rowsN, numsN] at e
  | succ f =>
    have h0 : (rowsN (f + 1))[0]? = some (rowI (.int ((0 : Nat) : Int))) := by simp [rowsN, numsN]
    rw [e] at h0
    simp at h0
    rw [h0]; rfl
/-- how many rows have that integer -/
def cnt (B : List D) (i : Int) : Nat := (B.filter fun d => decide (col1 d = i)).length
theorem cnt_app (A B : List D) (i : Int) : cnt (A ++ B) i = cnt A i + cnt B i := by simp only [cnt, List.filter_append, List.length_append]
theorem cnt_rows (f : Nat) : cnt (rowsN f) 0 = (f + 1) / 2 ∧ cnt (rowsN f) 1 = f / 2 := by
  induction f with
  | zero => exact ⟨rfl, rfl⟩
  | succ f ih =>
    have c : ∀ i, cnt [rowI (.int (f : Int))] i = if (f : Int) % 2 = i then 1 else 0 := fun i => by
      unfold cnt
      by_cases h : (f : Int) % 2 = i
      · rw [if_pos h]
        simp [List.filter_cons, show col1 (rowI (.int (f : Int))) = (f : Int) % 2 from rfl, h]
      · rw [if_neg h]
        simp [List.filter_cons, show col1 (rowI (.int (f : Int))) = (f : Int) % 2 from rfl, h]
    rw [rowsN_snoc, cnt_app, cnt_app, c, c, ih.1, ih.2]
    by_cases h : (f : Int) % 2 = 0
    · rw [if_pos h, if_neg (by omega)]; omega
    · rw [if_neg h, if_pos (by omega)]; omega
theorem pairs_cnt (B : List D) : ∀ A : List D, (∀ d ∈ A, col1 d = 0 ∨ col1 d = 1) → (pairsP A B eqC).length = cnt A 0 * cnt B 0 + cnt A 1 * cnt B 1
  | [], _ => by simp [pairsP, cnt]
  | a :: A, h => by
    have ih := pairs_cnt B A fun d hd => h d (by simp [hd])
    have e : pairsP (a :: A) B eqC = (B.filter (eqC a)).map (addT a) ++ pairsP A B eqC := rfl
    have l : ((B.filter (eqC a)).map (addT a)).length = cnt B (col1 a) := by
      rw [List.length_map]
      unfold cnt
      congr 2
      funext d
      simp only [eqC]
      exact decide_eq_decide.mpr ⟨Eq.symm, Eq.symm⟩
    rw [e, List.length_append, l, ih]
    rcases h a (by simp) with q | q
    · have c0 : cnt (a :: A) 0 = cnt A 0 + 1 := by unfold cnt; rw [List.filter_cons_of_pos (by simp [q])]; rfl
      have c1 : cnt (a :: A) 1 = cnt A 1 := by unfold cnt; rw [List.filter_cons_of_neg (by simp [q])]
      rw [c0, c1, q, Nat.succ_mul]; omega
    · have c0 : cnt (a :: A) 0 = cnt A 0 := by unfold cnt; rw [List.filter_cons_of_neg (by simp [q])]
      have c1 : cnt (a :: A) 1 = cnt A 1 + 1 := by unfold cnt; rw [List.filter_cons_of_pos (by simp [q])]; rfl
      rw [c0, c1, q, Nat.succ_mul]; omega
theorem alike_eq (f s : Nat) : alikeI f s = ((pairsP (rowsN f) (rowsN s) eqC).length : Int) := by
  rw [pairs_cnt _ _ (rowsN_bin f), (cnt_rows f).1, (cnt_rows f).2, (cnt_rows s).1, (cnt_rows s).2]
  unfold alikeI
  push_cast
  rfl
/-- the first ones of rows of two kinds -/
theorem nub_two {x y : D} (ne : x ≠ y) : ∀ t : List D, (∀ d ∈ t, d = x ∨ d = y) → nub (x :: t) = [x, y].filter fun r => decide (r ∈ x :: t) := by
  intro t
  induction t using snocI with
  | h0 => intro _; simp [nub, ne.symm]
  | h1 t d ih =>
    intro h
    have ih := ih fun e he => h e (by simp [he])
    rw [← List.cons_append, nub_snoc, ih]
    rcases h d (by simp) with rfl | rfl
    · by_cases k : y ∈ t <;> simp [List.filter_cons, k, ne, ne.symm]
    · by_cases k : d ∈ t
      · simp [k]
      · have nd : ¬ d = x := fun e => ne e.symm
        simp [k, nd]
theorem law_dist (f s : Nat) : Pk.law (rowsN f) (rowsN s) .dist = Pk.rows (rowsN f) (rowsN s) .dist := by
  show row01.filter (fun r => decide (r ∈ picks (rowsN f) (rowsN s))) = nub (picks (rowsN f) (rowsN s))
  have two : ∀ d ∈ picks (rowsN f) (rowsN s), d = .tup [.int 0] ∨ d = .tup [.int 1] := fun d hd => by
    obtain ⟨x, hx, rfl⟩ := List.mem_map.mp hd
    simp only [pairsT, pairsP, List.mem_flatMap, List.mem_map, List.mem_filter] at hx
    obtain ⟨p, hp, q, ⟨hq, -⟩, rfl⟩ := hx
    have b := rowsN_bin f p hp
    obtain ⟨s1, i, rfl, -⟩ := rowsN_S f p hp
    obtain ⟨s2, j, rfl, -⟩ := rowsN_S s q hq
    simp only [col1] at b
    rcases b with rfl | rfl
    · exact .inl rfl
    · exact .inr rfl
  cases e : picks (rowsN f) (rowsN s) with
  | nil => rfl
  | cons x t =>
    rw [e] at two
    have hx : x = .tup [.int 0] := by
      cases ef : rowsN f with
      | nil => rw [ef] at e; simp [picks, pairsT, pairsP] at e
      | cons a A =>
        have ha := rowsN_head f a A ef
        cases es : rowsN s with
        | nil =>
          have e0 : picks (rowsN f) [] = [] := by simp [picks, pairsT, pairsP]
          rw [es, e0] at e
          cases e
        | cons b B =>
          have ea := rowsN_S f a (by rw [ef]; simp)
          have eb := rowsN_S s b (by rw [es]; simp)
          obtain ⟨s1, i, rfl, -⟩ := ea
          obtain ⟨s2, j, rfl, -⟩ := eb
          rw [ef, es] at e
          simp only [picks, pairsT, pairsP, filter_true, List.flatMap_cons, List.map_cons, List.cons_append, List.cons.injEq] at e
          rw [← e.1]
          simp only [col1] at ha
          subst ha
          rfl
    subst hx
    rw [nub_two (y := .tup [.int 1]) (by decide) t fun d hd => two d (by simp [hd])]
    rfl
theorem ks_two : ∀ t : List D, ∀ d0 : D, col1 d0 = 0 → (∀ d ∈ t, col1 d = 0 ∨ col1 d = 1) → ks (d0 :: t) = [0, 1].filter fun v => (colInts (d0 :: t)).any (· == v) := by
  intro t
  induction t using snocI with
  | h0 => intro d0 h0 _; simp [ks, colInts, h0]
  | h1 t d ih =>
    intro d0 h0 h
    have ih := ih d0 h0 fun e he => h e (by simp [he])
    rw [← List.cons_append, ks_snoc, ih]
    rcases h d (by simp) with q | q
    · simp [colInts, h0, q, List.filter_cons]
    · by_cases k : ∃ x ∈ t, col1 x = 1
      · simp [colInts, h0, q, k]
      · simp [colInts, h0, q, k]
theorem cnt_count (C : List D) (i : Int) : (ofK C i).length = (colInts C).count i := by
  unfold ofK colInts
  rw [List.count_eq_countP, List.countP_map, List.countP_eq_length_filter]
  congr 2
theorem law_grp (f s : Nat) : Pk.law (rowsN f) (rowsN s) .grp = Pk.rows (rowsN f) (rowsN s) .grp := by
  show (([0, 1] : List Int).filter fun v => (colInts ((rowsN f ++ rowsN s) ++ rowsN f)).any (· == v)).map (fun v => D.tup [.int v, .int ((colInts ((rowsN f ++ rowsN s) ++ rowsN f)).count v)]) = (ks ((rowsN f ++ rowsN s) ++ rowsN f)).map (grow ((rowsN f ++ rowsN s) ++ rowsN f))
  have bin : ∀ d ∈ (rowsN f ++ rowsN s) ++ rowsN f, col1 d = 0 ∨ col1 d = 1 := fun d hd => by
    rcases List.mem_append.mp hd with hd | hd
    · rcases List.mem_append.mp hd with hd | hd
      · exact rowsN_bin f d hd
      · exact rowsN_bin s d hd
    · exact rowsN_bin f d hd
  have hk : ks ((rowsN f ++ rowsN s) ++ rowsN f) = ([0, 1] : List Int).filter fun v => (colInts ((rowsN f ++ rowsN s) ++ rowsN f)).any (· == v) := by
    cases e : (rowsN f ++ rowsN s) ++ rowsN f with
    | nil => rfl
    | cons d0 t =>
      rw [e] at bin
      refine ks_two t d0 ?_ fun d hd => bin d (by simp [hd])
      cases ef : rowsN f with
      | nil =>
        rw [ef, List.nil_append, List.append_nil] at e
        exact rowsN_head s d0 t e
      | cons a A =>
        have ha := rowsN_head f a A ef
        rw [ef] at e
        simp only [List.cons_append, List.cons.injEq] at e
        rw [← e.1]; exact ha
  rw [hk]
  refine List.map_congr_left fun v _ => ?_
  rw [grow, cnt_count]
theorem law_rows (f s : Nat) (k : Pk) : k.law (rowsN f) (rowsN s) = k.rows (rowsN f) (rowsN s) := by
  cases k with
  | dist => exact law_dist f s
  | grp => exact law_grp f s
  | _ => rfl
end Pl

set_option Elab.async false
set_option linter.all false
set_option maxRecDepth 100000
set_option autoImplicit false
set_option maxHeartbeats 0
/-! Pl42: the law's comparison. -/
namespace Pl
open PySem Ev PK Qe
theorem filter_false {α : Type} (l : List α) : l.filter (fun _ => false) = [] := List.filter_eq_nil_iff.mpr fun _ _ h => Bool.noConfusion h
theorem k_lsame : keys.lookup (Str.empty, ("_law_same" : Str)) = some fUlaw_same := by rfl
theorem ev_isin {F : Fn} {ρ : En} {h : Hb} {x : Nat} {d : D} {ts : List Ty} {one b : Bool} (e : getVar ρ x = some d) (hb : isAny h d ts = some b) : evE F (.isin (.var x) ts one) ρ h = some (.ok (.bl b) h) := by
  rw [qE_isin, ev_var e, bnd_ok]
  simp only [hb]
theorem evT_ex {F : Fn} {ρ : En} {h h' : Hb} {e : Ex} {b : Bool} (a : evE F e ρ h = some (.ok (.bl b) h')) : evT F (.ex e) ρ h = some (.ok b h') := by
  rw [qT_ex, a, bnd_ok]; rfl
theorem evT_not {F : Fn} {ρ : En} {h h' : Hb} {c : Tx} {b : Bool} (a : evT F c ρ h = some (.ok b h')) : evT F (.not c) ρ h = some (.ok (!b) h') := by
  rw [qT_not, a, bnd_ok]
theorem evT_orF {F : Fn} {ρ : En} {h h' : Hb} {c d : Tx} {r : RO Bool} (a : evT F c ρ h = some (.ok false h')) (b : evT F d ρ h' = r) : evT F (.or c d) ρ h = r := by
  rw [qT_or, a, bnd_ok]; exact b
theorem evT_orT {F : Fn} {ρ : En} {h h' : Hb} {c d : Tx} (a : evT F c ρ h = some (.ok true h')) : evT F (.or c d) ρ h = some (.ok true h') := by
  rw [qT_or, a, bnd_ok]
theorem evT_andT {F : Fn} {ρ : En} {h h' : Hb} {c d : Tx} {r : RO Bool} (a : evT F c ρ h = some (.ok true h')) (b : evT F d ρ h' = r) : evT F (.and c d) ρ h = r := by
  rw [qT_and, a, bnd_ok]; exact b
theorem evT_andF {F : Fn} {ρ : En} {h h' : Hb} {c d : Tx} (a : evT F c ρ h = some (.ok false h')) : evT F (.and c d) ρ h = some (.ok false h') := by
  rw [qT_and, a, bnd_ok]
theorem evT_cmp {F : Fn} {ρ : En} {h h1 h2 : Hb} {op : CmpOp} {a b : Ex} {x y : D} {v : Bool} (ea : evE F a ρ h = some (.ok x h1)) (eb : evE F b ρ h1 = some (.ok y h2)) (c : cmpD op h2 x y = some v) : evT F (.cmp op a b) ρ h = some (.ok v h2) := by
  rw [qT_cmp, ea, bnd_ok, eb, bnd_ok]; simp only [c]
theorem evE_cmp {F : Fn} {ρ : En} {h h1 h2 : Hb} {op : CmpOp} {a b : Ex} {x y : D} {v : Bool} (ea : evE F a ρ h = some (.ok x h1)) (eb : evE F b ρ h1 = some (.ok y h2)) (c : cmpD op h2 x y = some v) : evE F (.cmp op a b) ρ h = some (.ok (.bl v) h2) := by
  rw [qE_cmp, ea, bnd_ok, eb, bnd_ok]; simp only [c]
theorem evE_andT {F : Fn} {ρ : En} {h h' : Hb} {a b : Ex} {r : RO D} (ea : evE F a ρ h = some (.ok (.bl true) h')) (eb : evE F b ρ h' = r) : evE F (.andv a b) ρ h = r := by
  rw [qE_andv, ea, bnd_ok]; exact eb
theorem eqD_bl (h : Hb) (a b : Bool) : eqD h (.bl a) (.bl b) = some (decide (a = b)) := by
  simp [eqD, scalar, scalEq]
theorem eqD_int (h : Hb) (a b : Int) : eqD h (.int a) (.int b) = some (decide (a = b)) := by
  simp [eqD, scalar, scalEq]
theorem lsame_end {n : Nat} {h G : Hb} {x y : D} (e : evSs (FN n) pg.above WF fUlaw_same.body (startEn fUlaw_same [x, y]) h = some (.ret (.bl true) (h ++ G))) : (FN (n + 1)).run Str.empty "_law_same" [x, y] h = some (.ok (.bl true) h) := by
  rw [run_of k_lsame, run_ret (d := fUlaw_same) (ds := [x, y]) rfl e]
  exact congrArg some (gc_ext h G _ rfl)
theorem lsame_cell (n : Nat) (h : Hb) (c : D) (hc : cellOk c = true) : (FN (n + 1)).run Str.empty "_law_same" [c, c] h = some (.ok (.bl true) h) := by
  refine lsame_end (G := []) ?_
  rw [List.append_nil]
  have g0 : getVar (startEn fUlaw_same [c, c]) 0 = some c := rfl
  have g1 : getVar (startEn fUlaw_same [c, c]) 1 = some c := rfl
  cases c with
  | non =>
    refine (skip (evT_ex (ev_isin g1 rfl))).trans (hit (evT_orT (evT_cmp (v := true) (ev_var g1) ev_non rfl)) (ret_ev ?_))
    exact evE_andT (evE_cmp (v := true) (ev_isin (b := false) g0 rfl) (ev_isin (b := false) g1 rfl) (by simp [cmpD, eqD_bl])) (evE_cmp (v := true) (ev_var g0) (ev_var g1) rfl)
  | int i =>
    refine (skip (evT_ex (ev_isin g1 rfl))).trans ((skip (evT_orF (evT_cmp (v := false) (ev_var g1) ev_non rfl) (evT_ex (ev_isin g1 rfl)))).trans ((skip (evT_orF (evT_ex (ev_isin g0 rfl)) (evT_cmp (v := false) (ev_isin (b := false) g0 rfl) (ev_isin (b := false) g1 rfl) (by simp [cmpD, eqD_bl])))).trans (ret_ev ?_)))
    exact evE_andT (ev_isin g0 rfl) (evE_cmp (v := true) (ev_var g0) (ev_var g1) (by simp [cmpD, eqD_int]))
  | str i =>
    refine (skip (evT_ex (ev_isin g1 rfl))).trans ((skip (evT_orF (evT_cmp (v := false) (ev_var g1) ev_non rfl) (evT_ex (ev_isin g1 rfl)))).trans ((skip (evT_orF (evT_ex (ev_isin g0 rfl)) (evT_cmp (v := false) (ev_isin (b := true) g0 rfl) (ev_isin (b := true) g1 rfl) (by simp [cmpD, eqD_bl])))).trans (ret_ev ?_)))
    exact evE_andT (ev_isin g0 rfl) (evE_cmp (v := true) (ev_var g0) (ev_var g1) (by simp [cmpD, eqD, scalar, scalEq]))
  | _ => simp [cellOk] at hc
theorem lsame_seq (n : Nat) (h : Hb) (x y : D) (L : Nat) (b : Bool) (hx : isAny h x [.tuple, .list] = some true) (hy : isAny h y [.tuple, .list] = some true) (tx : isAny h x [.tuple] = some b) (ty : isAny h y [.tuple] = some b) (lx : bltD .len h [x] = some (.v (.int L))) (ly : bltD .len h [y] = some (.v (.int L))) (hL : L ≤ 1000000)
    (hk : ∀ k : Nat, k < L → ∃ c d, idxD h x (.int k) = some c ∧ idxD h y (.int k) = some d ∧ (FN n).run Str.empty "_law_same" [c, d] h = some (.ok (.bl true) h)) : (FN (n + 1)).run Str.empty "_law_same" [x, y] h = some (.ok (.bl true) h) := by
  refine lsame_end (G := [.lst [], .lst []]) ?_
  have g0 : getVar (startEn fUlaw_same [x, y]) 0 = some x := rfl
  have g1 : getVar (startEn fUlaw_same [x, y]) 1 = some y := rfl
  have len : ∀ {z : D} {i : Nat}, getVar (startEn fUlaw_same [x, y]) i = some z → bltD .len h [z] = some (.v (.int L)) → evE (FN n) (.blt .len (.cons (.var i) .nil)) (startEn fUlaw_same [x, y]) h = some (.ok (.int L) h) := by
    intro z i g l
    rw [qE_blt, evL1 (ev_var g), bnd_ok, l]; rfl
  have it : evI (FN n) (.rng1 (.blt .len (.cons (.var 1) .nil))) (startEn fUlaw_same [x, y]) h = some (.ok (.rng 0 L) h) := by
    rw [qI_rng1, len g1 ly, bnd_ok]
    simp only []
    rw [if_pos (by simp only [fits62, decide_eq_true_eq]; omega)]
    simp
  have ec : evE (FN n) (.comp true (.nm 2) (.rng1 (.blt .len (.cons (.var 1) .nil))) (.not (.ex (.call "_law_same" (.cons (.idx (.var 0) (.var 2)) (.cons (.idx (.var 1) (.var 2)) .nil))))) (.var 2)) (startEn fUlaw_same [x, y]) h = some (.ok (.ref h.length) (h ++ [.lst []])) := by
    rw [qE_comp, it, bnd_ok]
    have key := comp_all (J := .rng 0 L) (g := .nm 2) (c := evT (FN n) (.not (.ex (.call "_law_same" (.cons (.idx (.var 0) (.var 2)) (.cons (.idx (.var 1) (.var 2)) .nil)))))) (e := evE (FN n) (.var 2)) (ρ := Ev.wipe (startEn fUlaw_same [x, y]) (Tg.nm 2).slots) (h := h) (ds := numsN L) (p := fun _ => false) (f := id) (at_rng L) (by simp [It.size, numsN]) (fun d hd => ⟨_, rfl, by
      simp only [numsN, List.mem_map, List.mem_range] at hd
      obtain ⟨k, hk', rfl⟩ := hd
      obtain ⟨c, d, ic, id', run⟩ := hk k hk'
      refine evT_not (evT_ex (ev_call2 (d1 := c) (d2 := d) (h1 := h) (h2 := h) ?_ ?_ run))
      · rw [qE_idx, ev_var (d := x) rfl, bnd_ok, ev_var (d := .int k) rfl, bnd_ok]; simp only [ic]
      · rw [qE_idx, ev_var (d := y) rfl, bnd_ok, ev_var (d := .int k) rfl, bnd_ok]; simp only [id'], fun z => Bool.noConfusion z⟩) [] (by rw [filter_false]; simp)
    rw [filter_false] at key
    rw [key]
    rfl
  have el : evE (FN n) (.lst .nil) (startEn fUlaw_same [x, y]) (h ++ [.lst []]) = some (.ok (.ref (h ++ [Ob.lst []]).length) (h ++ [.lst [], .lst []])) := by
    rw [qE_lst, qL_nil, bnd_ok, if_pos (by simp)]
    simp only [Ev.newList, List.append_assoc]
    rfl
  have c0 : evT (FN n) (.ex (.isin (.var 1) [.tuple, .list] false)) (startEn fUlaw_same [x, y]) h = some (.ok true h) := evT_ex (ev_isin g1 hy)
  have c1 : evT (FN n) (.or (.not (.ex (.isin (.var 0) [.tuple, .list] false))) (.or (.cmp .NotEq (.isin (.var 0) [.tuple] true) (.isin (.var 1) [.tuple] true)) (.cmp .NotEq (.blt .len (.cons (.var 0) .nil)) (.blt .len (.cons (.var 1) .nil))))) (startEn fUlaw_same [x, y]) h = some (.ok false h) :=
    evT_orF (evT_not (evT_ex (ev_isin g0 hx))) (evT_orF (evT_cmp (ev_isin g0 tx) (ev_isin g1 ty) (by simp [cmpD, eqD_bl])) (evT_cmp (len g0 lx) (len g1 ly) (by simp [cmpD, eqD_int])))
  have e3 : evE (FN n) (.cmp .Eq (.comp true (.nm 2) (.rng1 (.blt .len (.cons (.var 1) .nil))) (.not (.ex (.call "_law_same" (.cons (.idx (.var 0) (.var 2)) (.cons (.idx (.var 1) (.var 2)) .nil))))) (.var 2)) (.lst .nil)) (startEn fUlaw_same [x, y]) h = some (.ok (.bl true) (h ++ [.lst [], .lst []])) :=
    evE_cmp ec el (by
      simp only [cmpD]
      have := eq_nil (rs := []) (H := h ++ [.lst [], .lst []]) (m := h.length) (k := (h ++ [Ob.lst []]).length) (by rw [at_new0]; rfl) (by rw [List.length_append, at_new]; rfl) (by simp)
      exact this)
  exact hit c0 ((skip c1).trans (ret_ev e3))
theorem lsame_row (n : Nat) (h : Hb) (d : D) (hd : rowOk d = true) : (FN (n + 2)).run Str.empty "_law_same" [d, d] h = some (.ok (.bl true) h) := by
  obtain ⟨cs, rfl, -, hl, hc⟩ := row_inv hd
  refine lsame_seq (n + 1) h _ _ cs.length true rfl rfl rfl rfl rfl rfl (by omega) fun k hk => ⟨cs[k], cs[k], ?_, ?_, lsame_cell n h _ (hc _ (List.getElem_mem hk))⟩
  · simp only [idxD, ix_nat, List.getElem?_eq_getElem hk]
  · simp only [idxD, ix_nat, List.getElem?_eq_getElem hk]
theorem lsame_rows (n : Nat) (h : Hb) (a b : Nat) (rs : List D) (ha : h[a]? = some (.lst rs)) (hb : h[b]? = some (.lst rs)) (hr : ∀ d ∈ rs, rowOk d = true) (hl : rs.length ≤ 1000000) : (FN (n + 3)).run Str.empty "_law_same" [.ref a, .ref b] h = some (.ok (.bl true) h) := by
  have ty : ∀ {m : Nat} {ts : List Ty}, h[m]? = some (.lst rs) → isAny h (.ref m) ts = some (ts.any fun T => kitD .list T) := by
    intro m ts hm
    simp only [isAny, tyOf, items_of hm, Option.map]
  refine lsame_seq (n + 2) h _ _ rs.length false (ty ha) (ty hb) (ty ha) (ty hb) ?_ ?_ hl fun k hk => ⟨rs[k], rs[k], ?_, ?_, lsame_row n h _ (hr _ (List.getElem_mem hk))⟩
  · simp only [bltD, items_of ha, Option.map]
  · simp only [bltD, items_of hb, Option.map]
  · simp only [idxD, ha, ix_nat, List.getElem?_eq_getElem hk]
  · simp only [idxD, hb, ix_nat, List.getElem?_eq_getElem hk]
end Pl

set_option Elab.async false
set_option linter.all false
set_option maxRecDepth 100000
set_option autoImplicit false
set_option maxHeartbeats 0
/-! Pl43: the law's question: its heap. -/
namespace Pl
open PySem Ev PK Qe
def dkO (L : Nat) : Ob := .dk [(Sum.inr ("s0_a" : Str), .ref (L + 3)), (Sum.inr ("s0_b" : Str), .ref (L + 10))]
def HB (L f s : Nat) : Hb := srcHb "s0_a" L (rowsN f) ++ (srcHb "s0_b" (L + 7) (rowsN s) ++ [dkO L, .lst (rowsN f), .lst (rowsN s)])
abbrev envR (st f s : Nat) (pick : Int) (plan most S o t due turn found : Option D) : En := [some (.ref st), some (.int f), some (.int s), some (.int pick), plan, most, S, o, t, due, turn, found, none]
theorem right_disp (n : Nat) (H : Hb) (f s : Nat) (lf : f ≤ 2000) (ls : s ≤ 2000) {ρ : En} (g1 : getVar ρ 1 = some (.int f)) (g2 : getVar ρ 2 = some (.int s)) :
    evE (FN (n + 2)) (.disp ["s0_a", "s0_b"] (.cons (.call "_law_source" (.cons (.str "s0_a") (.cons (.var 1) .nil))) (.cons (.call "_law_source" (.cons (.str "s0_b") (.cons (.var 2) .nil))) .nil))) ρ H = some (.ok (.ref (H.length + 14)) (H ++ (srcHb "s0_a" H.length (rowsN f) ++ (srcHb "s0_b" (H.length + 7) (rowsN s) ++ [dkO H.length])))) := by
  have s1 := source_run n H "s0_a" f lf
  have s2 := source_run n (H ++ srcHb "s0_a" H.length (rowsN f)) "s0_b" s ls
  have l1 : (H ++ srcHb "s0_a" H.length (rowsN f)).length = H.length + 7 := by simp [srcHb]
  rw [l1] at s2
  have l2 : (H ++ srcHb "s0_a" H.length (rowsN f) ++ srcHb "s0_b" (H.length + 7) (rowsN s)).length = H.length + 14 := by simp [srcHb]
  rw [qE_disp, evLc (ev_call2 ev_str (ev_var g1) s1) (evLc (ev_call2 ev_str (ev_var g2) s2) evL0), bnd_ok, if_pos ⟨rfl, by decide, by decide⟩, l2, List.append_assoc, List.append_assoc]
  rfl
/-- the heap of the question: the sources behind what stood, and the draws -/
def Fr (sc st : Nat) (h : Hb) (f s L : Nat) (H : Hb) : Prop := ∃ K G, H = K ++ (HB L f s ++ G) ∧ K.length = L ∧ Stp sc st h K
section
variable {sc st : Nat} {ns : List Int} {h : Hb} {f s L : Nat} {H : Hb}
theorem Fr.app (a : Fr sc st h f s L H) (G' : Hb) : Fr sc st h f s L (H ++ G') := by
  obtain ⟨K, G, rfl, e, t⟩ := a
  exact ⟨K, G ++ G', by simp only [List.append_assoc], e, t⟩
theorem Fr.stp (a : Fr sc st h f s L H) : Stp sc st h H := by
  obtain ⟨K, G, rfl, e, t⟩ := a
  exact t.app _
theorem Stp.lt (lt : st < h.length) (a : Stp sc st h H) : st < H.length := by
  obtain ⟨p, z, q, G, hp, rfl⟩ := a
  simp; omega
theorem Fr.big (i : St sc st ns h) (a : Fr sc st h f s L H) : st < L := by
  obtain ⟨K, G, rfl, e, t⟩ := a
  rw [← e]; exact t.lt i.lt
theorem Fr.set (i : St sc st ns h) (a : Fr sc st h f s L H) {p z q : Int} (hp : 0 ≤ p) : Fr sc st h f s L (H.set st (stO sc p z q)) := by
  obtain ⟨K, G, rfl, e, t⟩ := a
  have lt := t.lt i.lt
  refine ⟨K.set st (stO sc p z q), G, List.set_append_left _ _ lt, by simp [e], ?_⟩
  exact t.trans i.lt ⟨p, z, q, [], hp, by simp⟩
theorem Fr.at_ (a : Fr sc st h f s L H) (j : Nat) (o : Ob) (e : (HB L f s)[j]? = some o) : H[L + j]? = some o := by
  obtain ⟨K, G, rfl, rfl, t⟩ := a
  rw [at_new]
  exact at_old e
theorem Fr.state (i : St sc st ns h) (a : Fr sc st h f s L H) : St sc st ns H := a.stp.st i
end
/-- the sources, as the runner sees them -/
theorem Fr.here {sc st : Nat} {h : Hb} {f s L : Nat} {H : Hb} (a : Fr sc st h f s L H) (p : Nat) :
    HereC H.length (L + 14) (H.length + 1) (L + 3) (L + 10) (L + 6) (L + 13) (L + 11) [("name", .str "s0_a"), ("columns", .ref (L + 4)), ("kinds", .ref (L + 5)), ("rows", .ref (L + 6))] [("name", .str "s0_b"), ("columns", .ref (L + 11)), ("kinds", .ref (L + 12)), ("rows", .ref (L + 13))] (rowsN f) (rowsN s) (H ++ [rnr (L + 14) (H.length + 1), wld (L + 14) p]) :=
  ⟨⟨by rw [at_new0]; rfl, at_old (a.at_ 14 _ rfl), at_old (a.at_ 3 _ rfl), at_old (a.at_ 10 _ rfl), rfl, rfl, at_old (a.at_ 6 _ rfl), at_old (a.at_ 13 _ rfl)⟩, rfl, at_old (a.at_ 11 _ rfl)⟩
theorem due_noRefs {k : Pk} {f s : Nat} : ∀ A, due (k.most (rowsN f) (rowsN s) ≤ 2000) (k.rows (rowsN f) (rowsN s)) = some A → noRef.noRefs A = true := fun A e =>
  rowsOk_noRefs (good_pk k (rowsN_S f) (rowsN_S s) A e).1
theorem Pk.shape (k : Pk) (hk : k.fit) : ∃ w xs, k.plan = .tup (.str w :: xs) ∧ planP (.tup (.str w :: xs)) = true ∧ noRef.noRefs xs = true := by
  cases k with
  | jlit x => rcases hk with ⟨b, rfl⟩ | rfl <;> exact ⟨_, _, rfl, rfl, rfl⟩
  | _ => exact ⟨_, _, rfl, by decide +kernel, by decide +kernel⟩
/-- run of a drawn plan -/
theorem run_pk {sc st : Nat} {h : Hb} {f s L : Nat} {H : Hb} (n : Nat) (k : Pk) (hk : k.fit) (lf : f ≤ 2000) (ls : s ≤ 2000) (a : Fr sc st h f s L H) (p : Nat) :
    (FN (n + 21)).run Str.empty "run" [k.plan, .ref (L + 14), .ref p] H = res H (due (k.most (rowsN f) (rowsN s) ≤ 2000) (k.rows (rowsN f) (rowsN s))) :=
  run_plan (n := n) (k := 20) (by omega) due_noRefs (out_pk k hk (rowsN_S f) (rowsN_S s) (by rw [rowsN_len]; exact lf) (by rw [rowsN_len]; exact ls) n _ (a.here p))
/-- .. of a distinct one above it -/
theorem run_pkD {sc st : Nat} {h : Hb} {f s L : Nat} {H : Hb} (n : Nat) (k : Pk) (hk : k.fit) (lf : f ≤ 2000) (ls : s ≤ 2000) (a : Fr sc st h f s L H) (p : Nat) :
    (FN (n + 26)).run Str.empty "run" [distP k.plan, .ref (L + 14), .ref p] H = res H ((due (k.most (rowsN f) (rowsN s) ≤ 2000) (k.rows (rowsN f) (rowsN s))).map nub) := by
  obtain ⟨w, xs, e, pl, nr⟩ := k.shape hk
  have o := out_pk (r := H.length) (S := L + 14) (W := H.length + 1) (s1 := L + 3) (s2 := L + 10) (l1 := L + 6) (l2 := L + 13) (c2 := L + 11) (f1 := [("name", .str "s0_a"), ("columns", .ref (L + 4)), ("kinds", .ref (L + 5)), ("rows", .ref (L + 6))]) (f2 := [("name", .str "s0_b"), ("columns", .ref (L + 11)), ("kinds", .ref (L + 12)), ("rows", .ref (L + 13))]) k hk (rowsN_S f) (rowsN_S s) (by rw [rowsN_len]; exact lf) (by rw [rowsN_len]; exact ls)
  rw [e] at o ⊢
  refine run_plan (n := n) (k := 25) (by omega) (fun A eA => ?_) (out_distinct hereC_wd pl nr (good_pk k (rowsN_S f) (rowsN_S s)) o n _ (a.here p))
  cases hd : due (k.most (rowsN f) (rowsN s) ≤ 2000) (k.rows (rowsN f) (rowsN s)) with
  | none => rw [hd] at eA; cases eA
  | some B =>
    rw [hd] at eA
    have eA := Option.some.inj eA
    subst eA
    exact rowsOk_noRefs fun d hd' => (good_pk k (rowsN_S f) (rowsN_S s) B hd).1 d (nub_mem.mp hd')
end Pl

set_option Elab.async false
set_option linter.all false
set_option maxRecDepth 100000
set_option autoImplicit false
set_option maxHeartbeats 0
/-! Pl44: the law's way to leave out repeats. -/
namespace Pl
open PySem Ev PK Qe
/-- a comprehension whose condition and item may leave garbage -/
theorem grow2_from {J : It} {g : Tg} {c : En → Hb → RO Bool} {e : En → Hb → RO D} {ρ : En} {h : Hb} {ds : List D} {p : D → Bool} {f : D → D} (hat : ∀ G i, J.at (h ++ G) i = some ds[i]?)
    (hb : ∀ d ∈ ds, ∃ ρ', bindTg ρ g d = some ρ' ∧ ∀ G, ∃ G1, c ρ' (h ++ G) = some (.ok (p d) (h ++ G1)) ∧ (p d = true → ∃ G', e ρ' (h ++ G1) = some (.ok (f d) (h ++ G')))) :
    ∀ (m i : Nat) (acc : List D) (G : Hb), i + m = ds.length → acc.length + ((ds.drop i).filter p).length ≤ sizeLine → ∃ G', compLoop J g c e ρ (m + 1) i acc (h ++ G) = some (.ok (acc ++ ((ds.drop i).filter p).map f) (h ++ G')) := by
  intro m
  induction m with
  | zero =>
    intro i acc G hi hl
    have hn : ds[i]? = none := List.getElem?_eq_none (by omega)
    have hd : ds.drop i = [] := List.drop_eq_nil_of_le (by omega)
    exact ⟨G, by simp only [compLoop, hat, hn, hd]; simp⟩
  | succ m ih =>
    intro i acc G hi hl
    have lt : i < ds.length := by omega
    have hn : ds[i]? = some ds[i] := List.getElem?_eq_getElem lt
    have hd : ds.drop i = ds[i] :: ds.drop (i + 1) := List.drop_eq_getElem_cons lt
    obtain ⟨ρ', b1, b2⟩ := hb ds[i] (List.getElem_mem lt)
    obtain ⟨G1, b3, b4⟩ := b2 G
    rw [hd] at hl ⊢
    cases hp : p ds[i] with
    | false =>
      rw [List.filter_cons_of_neg (by simp [hp])] at hl ⊢
      obtain ⟨G', e1⟩ := ih (i + 1) acc G1 (by omega) hl
      exact ⟨G', by rw [compLoop]; simp only [hat, hn, b1, b3, hp, bnd_ok]; exact e1⟩
    | true =>
      rw [List.filter_cons_of_pos hp] at hl ⊢
      simp only [List.length_cons] at hl
      obtain ⟨G2, e1⟩ := b4 hp
      obtain ⟨G', e2⟩ := ih (i + 1) (acc ++ [f ds[i]]) G2 (by omega) (by simp only [List.length_append, List.length_cons, List.length_nil]; omega)
      refine ⟨G', ?_⟩
      rw [compLoop]
      simp only [hat, hn, b1, b3, hp, bnd_ok, e1]
      rw [if_pos (by omega), e2]
      simp
/-- the places where something stands for the first time -/
def firsts (rs : List D) : List D := ((List.range rs.length).filter fun k => decide (rs.getD k .non ∉ rs.take k)).map fun k => rs.getD k .non
theorem firsts_nub (rs : List D) : firsts rs = nub rs := by
  induction rs using snocI with
  | h0 => rfl
  | h1 s d ih =>
    have old : ((List.range s.length).filter fun k => decide ((s ++ [d]).getD k .non ∉ (s ++ [d]).take k)).map (fun k => (s ++ [d]).getD k .non) = firsts s := by
      unfold firsts
      have g : ∀ k, k < s.length → (s ++ [d]).getD k .non = s.getD k .non ∧ (s ++ [d]).take k = s.take k := fun k hk => by
        refine ⟨?_, List.take_append_of_le_length (by omega)⟩
        rw [List.getD_eq_getElem?_getD, List.getD_eq_getElem?_getD, List.getElem?_append_left hk]
      have e1 : (List.range s.length).filter (fun k => decide ((s ++ [d]).getD k .non ∉ (s ++ [d]).take k)) = (List.range s.length).filter (fun k => decide (s.getD k .non ∉ s.take k)) :=
        List.filter_congr fun k hk => by rw [(g k (List.mem_range.mp hk)).1, (g k (List.mem_range.mp hk)).2]
      rw [e1]
      exact List.map_congr_left fun k hk => (g k (List.mem_range.mp (List.mem_filter.mp hk).1)).1
    have gl : (s ++ [d]).getD s.length .non = d := by rw [List.getD_eq_getElem?_getD]; simp
    have tl : (s ++ [d]).take s.length = s := by simp
    have e : firsts (s ++ [d]) = firsts s ++ (if d ∈ s then [] else [d]) := by
      conv => lhs; unfold firsts
      rw [List.length_append, List.length_singleton, List.range_succ, List.filter_append, List.map_append, old]
      congr 1
      by_cases q : d ∈ s
      · rw [if_pos q, List.filter_cons_of_neg (by rw [gl, tl]; simp [q])]; rfl
      · rw [if_neg q, List.filter_cons_of_pos (by rw [gl, tl]; simp [q])]
        simp only [List.filter_nil, List.map_cons, List.map_nil, gl]
    rw [e, ih, nub_snoc]
    by_cases q : d ∈ s
    · rw [if_pos q, if_pos (nub_mem.mpr q), List.append_nil]
    · rw [if_neg q, if_neg fun z => q (nub_mem.mp z)]
theorem cut_take (xs : List D) (k : Nat) (hk : k ≤ xs.length) : cutD xs none (some (k : Int)) = xs.take k := by
  unfold cutD
  rw [HT.sIx_none, HT.sIx_nat, Nat.min_eq_left hk]
  simp
/-- [due[k] for k in range(len(due)) if due[k] not in due[:k]] -/
theorem ev_firsts {F : Fn} {ρ : En} {h : Hb} {m : Nat} {rs : List D} (g9 : getVar ρ 9 = some (.ref m)) (hm : h[m]? = some (.lst rs)) (hr : ∀ d ∈ rs, rowOk d = true) (hl : rs.length ≤ 1000) (g9' : ∀ d, getVar (setVar (Ev.wipe ρ [12]) 12 d) 9 = some (.ref m)) (g12 : ∀ d, getVar (setVar (Ev.wipe ρ [12]) 12 d) 12 = some d) :
    ∃ G, evE F (.comp true (.nm 12) (.rng1 (.blt .len (.cons (.var 9) .nil))) (.cmp .NotIn (.idx (.var 9) (.var 12)) (.slc (.var 9) .none (.some (.var 12)))) (.idx (.var 9) (.var 12))) ρ h = some (.ok (.ref (h ++ G).length) ((h ++ G) ++ [.lst (nub rs)])) := by
  have it : evI F (.rng1 (.blt .len (.cons (.var 9) .nil))) ρ h = some (.ok (.rng 0 rs.length) h) := by
    rw [qI_rng1, len_lst g9 hm, bnd_ok]
    simp only []
    rw [if_pos (by simp only [fits62, decide_eq_true_eq]; omega)]
    simp
  let P : D → Bool := fun d => match d with | .int i => decide (rs.getD i.toNat .non ∉ rs.take i.toNat) | _ => false
  let f : D → D := fun d => match d with | .int i => rs.getD i.toNat .non | _ => .non
  have hb : ∀ d ∈ numsN rs.length, ∃ ρ', bindTg (Ev.wipe ρ [12]) (.nm 12) d = some ρ' ∧ ∀ G, ∃ G1, evT F (.cmp .NotIn (.idx (.var 9) (.var 12)) (.slc (.var 9) .none (.some (.var 12)))) ρ' (h ++ G) = some (.ok (P d) (h ++ G1)) ∧ (P d = true → ∃ G', evE F (.idx (.var 9) (.var 12)) ρ' (h ++ G1) = some (.ok (f d) (h ++ G'))) := by
    intro d hd
    simp only [numsN, List.mem_map, List.mem_range] at hd
    obtain ⟨k, hk, rfl⟩ := hd
    refine ⟨_, rfl, fun G => ⟨G ++ [.lst (rs.take k)], ?_, fun _ => ⟨G ++ [.lst (rs.take k)], ?_⟩⟩⟩
    · have gk : rs.getD k .non = rs[k] := by rw [List.getD_eq_getElem?_getD, List.getElem?_eq_getElem hk]; rfl
      have ei : evE F (.idx (.var 9) (.var 12)) (setVar (Ev.wipe ρ [12]) 12 (.int k)) (h ++ G) = some (.ok rs[k] (h ++ G)) := by
        rw [qE_idx, ev_var (g9' _), bnd_ok, ev_var (g12 _), bnd_ok]
        simp only [idxD, at_old hm, ix_nat, List.getElem?_eq_getElem hk]
      have es : evE F (.slc (.var 9) .none (.some (.var 12))) (setVar (Ev.wipe ρ [12]) 12 (.int k)) (h ++ G) = some (.ok (.ref (h ++ G).length) ((h ++ G) ++ [.lst (rs.take k)])) := by
        rw [qE_slc, ev_var (g9' _), bnd_ok, qO_none, bnd_ok, qO_some, ev_var (g12 _), bnd_ok]
        simp only [bnd_ok, slcD, items_of (at_old hm), cut_take rs k (by omega), nvRes]
      show evT F _ (setVar (Ev.wipe ρ [12]) 12 (.int k)) _ = some (.ok (decide (rs.getD k .non ∉ rs.take k)) _)
      rw [evT_cmp ei es (v := decide (rs[k] ∉ rs.take k)) (by
        simp only [cmpD, in_rows (at_last (h ++ G) (.lst (rs.take k))) (hr _ (List.getElem_mem hk)) fun d hd => hr d (List.mem_of_mem_take hd), Option.map]
        rw [decide_not]), gk, List.append_assoc]
    · have gk : f (.int k) = rs[k] := by show rs.getD k .non = _; rw [List.getD_eq_getElem?_getD, List.getElem?_eq_getElem hk]; rfl
      show evE F _ (setVar (Ev.wipe ρ [12]) 12 (.int k)) _ = _
      rw [qE_idx, ev_var (g9' _), bnd_ok, ev_var (g12 _), bnd_ok, gk]
      simp only [idxD, at_old hm, ix_nat, List.getElem?_eq_getElem hk]
  have nl : (numsN rs.length).length = rs.length := by simp [numsN]
  obtain ⟨G, key⟩ := grow2_from (J := .rng 0 rs.length) (g := .nm 12) (ρ := Ev.wipe ρ [12]) (h := h) (ds := numsN rs.length) (p := P) (f := f) (fun G i => at_rng rs.length i) hb (numsN rs.length).length 0 [] [] (by omega) (by
    have := List.length_filter_le P (numsN rs.length)
    simp only [List.drop_zero, List.length_nil]
    rw [sizeLine_eq']; omega)
  refine ⟨G, ?_⟩
  rw [List.append_nil, List.nil_append, List.drop_zero] at key
  rw [qE_comp, it, bnd_ok, show (It.rng 0 rs.length).size h = (numsN rs.length).length by simp [It.size, numsN]]
  have out : ((numsN rs.length).filter P).map f = nub rs := by
    rw [← firsts_nub, numsN, List.filter_map, List.map_map]
    rfl
  rw [out] at key
  show bnd (okX true (compLoop (.rng 0 rs.length) (.nm 12) _ _ (Ev.wipe ρ [12]) _ 0 [] h)) _ = _
  rw [key]
  rfl
end Pl

set_option Elab.async false
set_option linter.all false
set_option maxRecDepth 100000
set_option autoImplicit false
set_option maxHeartbeats 0
/-! Pl45: the law's question: its steps ahead of the turns. -/
namespace Pl
open PySem Ev PK Qe
/-- the drawn plan -/
theorem drawn_pk (n : Nat) (h : Hb) (sc st : Nat) (ns : List Int) (f s : Nat) (lf : f ≤ 2000) (ls : s ≤ 2000) (pick : Int) (p0 : 0 ≤ pick) (p1 : pick < 9) (i : St sc st ns h) :
    ∃ (k : Pk) (H : Hb), k.fit ∧ Stp sc st h H ∧ (FN (n + 2)).run Str.empty "_law_drawn" [.ref st, .int f, .int s, .int pick] h = some (.ok (.tup [k.plan, k.told f s]) H) := by
  have r0 : Stp sc st h h := by simpa using Stp.refl i []
  have : pick = 0 ∨ pick = 1 ∨ pick = 2 ∨ pick = 3 ∨ pick = 4 ∨ pick = 5 ∨ pick = 6 ∨ pick = 7 ∨ pick = 8 := by omega
  rcases this with rfl | rfl | rfl | rfl | rfl | rfl | rfl | rfl | rfl
  · exact ⟨.cross, h, trivial, r0, drawn0 (n + 1) h st f s lf ls⟩
  · exact ⟨.keep, h, trivial, r0, drawn1 (n + 1) h st f s lf ls⟩
  · obtain ⟨x, H, fx, sH, e⟩ := drawn2 n h st f s lf ls i
    exact ⟨.jlit x, H, fx, sH, e⟩
  · exact ⟨.jeq, h, trivial, r0, drawn3 n h st f s lf ls⟩
  · exact ⟨.mat, h, trivial, r0, drawn4 (n + 1) h st f s lf ls⟩
  · exact ⟨.out, h, trivial, r0, drawn5 n h st f s lf ls⟩
  · exact ⟨.all, h, trivial, r0, drawn6 (n + 1) h st f s lf ls⟩
  · exact ⟨.dist, h, trivial, r0, drawn7 n h st f s lf ls⟩
  · exact ⟨.grp, h, trivial, r0, drawn8 n h st f s lf ls⟩
abbrev S1 : Sx := .asg (.tg (.tu [4, 5])) (.call "_law_drawn" (.cons (.var 0) (.cons (.var 1) (.cons (.var 2) (.cons (.var 3) .nil)))))
abbrev S2 : Sx := .asg (.tg (.nm 6)) (.disp ["s0_a", "s0_b"] (.cons (.call "_law_source" (.cons (.str "s0_a") (.cons (.var 1) .nil))) (.cons (.call "_law_source" (.cons (.str "s0_b") (.cons (.var 2) .nil))) .nil)))
abbrev S3 : Sx := .par 7 8 (.blt .list (.cons (.fld (.idx (.var 6) (.str "s0_a")) "rows") .nil)) (.blt .list (.cons (.fld (.idx (.var 6) (.str "s0_b")) "rows") .nil))
abbrev S4 : Sx := .ifs (.and (.cmp .Eq (.idx (.var 4) (.int 0)) (.str "join")) (.cmp .Eq (.idx (.idx (.var 4) (.int 1)) (.int 0)) (.str "literal")))
 (.cons (.asg (.tg (.nm 5)) (.ite (.cmp .Is (.idx (.idx (.var 4) (.int 1)) (.int 1)) (.bl true)) (.bin .Mult (.var 1) (.var 2)) (.int 0)))
 .nil)
 .nil
abbrev S5 : Sx := .ifs (.cmp .Is (.var 5) .non)
 (.cons (.asg (.tg (.nm 5)) (.blt .len (.cons (.call "_law_made" (.cons (.var 4) (.cons (.var 7) (.cons (.var 8) .nil)))) .nil)))
 .nil)
 .nil
abbrev S6 : Sx := .asg (.tg (.nm 9)) (.ite (.cmp .LtE (.blt .max (.cons (.var 5) (.cons (.var 1) (.cons (.var 2) .nil)))) (.int 2000)) (.call "_law_made" (.cons (.var 4) (.cons (.var 7) (.cons (.var 8) .nil)))) .non)
abbrev S7 : Sx := .ifs (.and (.cmp .IsNot (.var 9) .non) (.and (.cmp .Lt (.blt .len (.cons (.var 9) .nil)) (.int 60)) (.cmp .Eq (.call "_law_next" (.cons (.var 0) (.cons (.int 2) .nil))) (.int 0))))
 (.cons (.asg (.tg (.nm 4)) (.tup (.cons (.str "distinct") (.cons (.var 4) .nil))))
 (.cons (.asg (.tg (.nm 9)) (.comp true (.nm 12) (.rng1 (.blt .len (.cons (.var 9) .nil))) (.cmp .NotIn (.idx (.var 9) (.var 12)) (.slc (.var 9) .none (.some (.var 12)))) (.idx (.var 9) (.var 12))))
 .nil))
 .nil
theorem st1 (n : Nat) (h : Hb) (sc st : Nat) (ns : List Int) (f s : Nat) (lf : f ≤ 2000) (ls : s ≤ 2000) (pick : Int) (p0 : 0 ≤ pick) (p1 : pick < 9) (i : St sc st ns h) :
    ∃ (k : Pk) (H : Hb), k.fit ∧ Stp sc st h H ∧ evS (FN (n + 2)) pg.above WF S1 (startEn fUlaw_right [.ref st, .int f, .int s, .int pick]) h = some (.nx (envR st f s pick (some k.plan) (some (k.told f s)) none none none none none none) H) := by
  obtain ⟨k, H, fk, sH, e⟩ := drawn_pk n h sc st ns f s lf ls pick p0 p1 i
  refine ⟨k, H, fk, sH, ?_⟩
  rw [qS_asg_tg, qE_call, evLc (ev_var (d := .ref st) rfl) (evLc (ev_var (d := .int f) rfl) (evLc (ev_var (d := .int s) rfl) (evLc (ev_var (d := .int pick) rfl) evL0))), bnd_ok, e]
  rfl
theorem st23 (n : Nat) (H : Hb) (st f s : Nat) (lf : f ≤ 2000) (ls : s ≤ 2000) (pick : Int) (a b : Option D) {ss : SxL} :
    evSs (FN (n + 2)) pg.above WF (.cons S2 (.cons S3 ss)) (envR st f s pick a b none none none none none none) H = evSs (FN (n + 2)) pg.above WF ss (envR st f s pick a b (some (.ref (H.length + 14))) (some (.ref (H.length + 15))) (some (.ref (H.length + 16))) none none none) (H ++ HB H.length f s) := by
  have e2 : evS (FN (n + 2)) pg.above WF S2 (envR st f s pick a b none none none none none none) H = some (.nx (envR st f s pick a b (some (.ref (H.length + 14))) none none none none none) (H ++ (srcHb "s0_a" H.length (rowsN f) ++ (srcHb "s0_b" (H.length + 7) (rowsN s) ++ [dkO H.length])))) := by
    rw [qS_asg_tg, right_disp n H f s lf ls rfl rfl]; rfl
  have gt : ∀ (G : Hb) (nm : Str) (j m : Nat) (fs : List (Str × D)) (l : Nat) (rows : List D), H.length + 14 = H.length + 14 → getK [(Sum.inr ("s0_a" : Str), D.ref (H.length + 3)), (Sum.inr ("s0_b" : Str), .ref (H.length + 10))] (Sum.inr nm) = some (.ref (H.length + j)) → (H ++ G)[H.length + 14]? = some (dkO H.length) → (H ++ G)[H.length + j]? = some (.ins "Source" fs) → fs.lookup ("rows" : Str) = some (D.ref (H.length + l)) → (H ++ G)[H.length + l]? = some (.lst rows) →
      evE (FN (n + 2)) (.blt .list (.cons (.fld (.idx (.var 6) (.str nm)) "rows") .nil)) (envR st f s pick a b (some (.ref (H.length + 14))) none none none none none) (H ++ G) = some (.ok (.ref (H ++ G).length) ((H ++ G) ++ [.lst rows])) := by
    intro G nm j m fs l rows _ hk hd hi hf hl
    have e1 : evE (FN (n + 2)) (.idx (.var 6) (.str nm)) (envR st f s pick a b (some (.ref (H.length + 14))) none none none none none) (H ++ G) = some (.ok (.ref (H.length + j)) (H ++ G)) := by
      rw [qE_idx, ev_var (d := .ref (H.length + 14)) rfl, bnd_ok, qE_str, bnd_ok]
      simp only [idxD, hd, dkO, hk]
    have e2 : evE (FN (n + 2)) (.fld (.idx (.var 6) (.str nm)) "rows") (envR st f s pick a b (some (.ref (H.length + 14))) none none none none none) (H ++ G) = some (.ok (.ref (H.length + l)) (H ++ G)) := by
      rw [qE_fld, e1]; simp only [bnd_ok, hi, hf]
    rw [qE_blt, evL1 e2, bnd_ok]
    simp only [bltD, items_of hl, Option.map, nvRes]
  have g1 := gt (srcHb "s0_a" H.length (rowsN f) ++ (srcHb "s0_b" (H.length + 7) (rowsN s) ++ [dkO H.length])) "s0_a" 3 0 [("name", .str "s0_a"), ("columns", .ref (H.length + 4)), ("kinds", .ref (H.length + 5)), ("rows", .ref (H.length + 6))] 6 (rowsN f) rfl (by rfl) (by rw [at_new]; rfl) (by rw [at_new]; rfl) rfl (by rw [at_new]; rfl)
  have g2 := gt (srcHb "s0_a" H.length (rowsN f) ++ (srcHb "s0_b" (H.length + 7) (rowsN s) ++ [dkO H.length, .lst (rowsN f)])) "s0_b" 10 0 [("name", .str "s0_b"), ("columns", .ref (H.length + 11)), ("kinds", .ref (H.length + 12)), ("rows", .ref (H.length + 13))] 13 (rowsN s) rfl (by rfl) (by rw [at_new]; rfl) (by rw [at_new]; rfl) rfl (by rw [at_new]; rfl)
  have l1 : (H ++ (srcHb "s0_a" H.length (rowsN f) ++ (srcHb "s0_b" (H.length + 7) (rowsN s) ++ [dkO H.length]))).length = H.length + 15 := by simp [srcHb]
  have l2 : (H ++ (srcHb "s0_a" H.length (rowsN f) ++ (srcHb "s0_b" (H.length + 7) (rowsN s) ++ [dkO H.length, .lst (rowsN f)]))).length = H.length + 16 := by simp [srcHb]
  rw [l1] at g1
  rw [l2] at g2
  have e3 : evS (FN (n + 2)) pg.above WF S3 (envR st f s pick a b (some (.ref (H.length + 14))) none none none none none) (H ++ (srcHb "s0_a" H.length (rowsN f) ++ (srcHb "s0_b" (H.length + 7) (rowsN s) ++ [dkO H.length]))) = some (.nx (envR st f s pick a b (some (.ref (H.length + 14))) (some (.ref (H.length + 15))) (some (.ref (H.length + 16))) none none none) (H ++ HB H.length f s)) := by
    rw [qS_par, g1, sB_ok]
    simp only [List.append_assoc, List.cons_append, List.nil_append] at g2 ⊢
    rw [g2, sB_ok]
    rfl
  exact (ss_nx e2).trans (ss_nx e3)
theorem lit_wordX {F : Fn} {ρ : En} {x : Nat} {p : D} {h : Hb} {w : Str} {ws rest : List D} {u : Bool} (g : getVar ρ x = some p) (hp : p = .tup (.str "join" :: .tup (.str w :: ws) :: rest)) (e : decide (w = ("literal" : Str)) = u) :
    evT F (.and (.cmp .Eq (.idx (.var x) (.int 0)) (.str "join")) (.cmp .Eq (.idx (.idx (.var x) (.int 1)) (.int 0)) (.str "literal"))) ρ h = some (.ok u h) := by
  subst hp
  rw [qT_and, wordT g, bnd_ok]
  show evT F _ _ _ = _
  rw [qT_cmp, qE_idx, ev_idx (e := .tup (.str w :: ws)) g (by simp [idxD, ix_1]), bnd_ok, qE_int, bnd_ok]
  simp only [idxD, ix_0, List.getElem?_cons_zero, bnd_ok, qE_str, cmpD, eqD, scalar, and_self, if_true, scalEq, e]
theorem not_joinX {F : Fn} {ρ : En} {x : Nat} {p : D} {h : Hb} {w : Str} {rest : List D} (g : getVar ρ x = some p) (hp : p = .tup (.str w :: rest)) (ne : w ≠ "join") :
    evT F (.and (.cmp .Eq (.idx (.var x) (.int 0)) (.str "join")) (.cmp .Eq (.idx (.idx (.var x) (.int 1)) (.int 0)) (.str "literal"))) ρ h = some (.ok false h) := by
  subst hp
  rw [qT_and, wordF g ne, bnd_ok]
section
variable (n : Nat) (H : Hb) (st f s : Nat) (lf : f ≤ 2000) (ls : s ≤ 2000) (pick : Int) (L : Nat) (o1 : H[L + 15]? = some (.lst (rowsN f))) (o2 : H[L + 16]? = some (.lst (rowsN s)))
include lf ls o1 o2
/-- the greatest number -/
theorem st45 (k : Pk) (fk : k.fit) {ss : SxL} : ∃ G, evSs (FN (n + 10)) pg.above WF (.cons S4 (.cons S5 ss)) (envR st f s pick (some k.plan) (some (k.told f s)) (some (.ref (L + 14))) (some (.ref (L + 15))) (some (.ref (L + 16))) none none none) H
      = evSs (FN (n + 10)) pg.above WF ss (envR st f s pick (some k.plan) (some (.int (k.most (rowsN f) (rowsN s)))) (some (.ref (L + 14))) (some (.ref (L + 15))) (some (.ref (L + 16))) none none none) (H ++ G) := by
  have s5 : ∀ {i : Int}, evS (FN (n + 10)) pg.above WF S5 (envR st f s pick (some k.plan) (some (.int i)) (some (.ref (L + 14))) (some (.ref (L + 15))) (some (.ref (L + 16))) none none none) H = some (.nx (envR st f s pick (some k.plan) (some (.int i)) (some (.ref (L + 14))) (some (.ref (L + 15))) (some (.ref (L + 16))) none none none) H) := by
    intro i
    exact (ifs_f (evT_cmp (v := false) (ev_var (d := .int i) rfl) ev_non rfl)).trans qSs_nil
  have s4F : ∀ {m : D} {w : Str} {rest : List D}, k.plan = .tup (.str w :: rest) → w ≠ "join" → evS (FN (n + 10)) pg.above WF S4 (envR st f s pick (some k.plan) (some m) (some (.ref (L + 14))) (some (.ref (L + 15))) (some (.ref (L + 16))) none none none) H = some (.nx (envR st f s pick (some k.plan) (some m) (some (.ref (L + 14))) (some (.ref (L + 15))) (some (.ref (L + 16))) none none none) H) := by
    intro m w rest hp ne
    exact (ifs_f (not_joinX (p := k.plan) rfl hp ne)).trans qSs_nil
  have lA : (rowsN f).length = f := rowsN_len f
  have lB : (rowsN s).length = s := rowsN_len s
  have fin : ∀ {i : Int} {w : Str} {rest : List D}, k.told f s = .int i → i = (k.most (rowsN f) (rowsN s) : Int) → k.plan = .tup (.str w :: rest) → w ≠ "join" → ∃ G, evSs (FN (n + 10)) pg.above WF (.cons S4 (.cons S5 ss)) (envR st f s pick (some k.plan) (some (k.told f s)) (some (.ref (L + 14))) (some (.ref (L + 15))) (some (.ref (L + 16))) none none none) H
      = evSs (FN (n + 10)) pg.above WF ss (envR st f s pick (some k.plan) (some (.int (k.most (rowsN f) (rowsN s)))) (some (.ref (L + 14))) (some (.ref (L + 15))) (some (.ref (L + 16))) none none none) (H ++ G) := by
    intro i w rest ht hi hp ne
    refine ⟨[], ?_⟩
    rw [List.append_nil, ht, ← hi]
    exact (ss_nx (s4F hp ne)).trans (ss_nx s5)
  have prod : ((f : Int) * s) = (((rowsN f).length * (rowsN s).length : Nat) : Int) := by rw [lA, lB]; push_cast; rfl
  cases k with
  | cross => exact fin rfl prod rfl (by decide)
  | keep => exact fin rfl prod rfl (by decide)
  | dist => exact fin rfl prod rfl (by decide)
  | mat => exact fin rfl (alike_eq f s) rfl (by decide)
  | all => exact fin rfl (by show (f : Int) + s = (((rowsN f).length + (rowsN s).length : Nat) : Int); rw [lA, lB]; push_cast; rfl) rfl (by decide)
  | grp => exact fin rfl (by show 2 * (f : Int) + s = ((2 * (rowsN f).length + (rowsN s).length : Nat) : Int); rw [lA, lB]; push_cast; rfl) rfl (by decide)
  | jeq =>
    refine ⟨[], ?_⟩
    rw [List.append_nil]
    have e4 : evS (FN (n + 10)) pg.above WF S4 (envR st f s pick (some (Pk.plan .jeq)) (some (Pk.told f s .jeq)) (some (.ref (L + 14))) (some (.ref (L + 15))) (some (.ref (L + 16))) none none none) H = _ :=
      (ifs_f (lit_wordX (p := Pk.plan .jeq) (w := "binary") rfl rfl (by decide))).trans qSs_nil
    refine (ss_nx e4).trans ?_
    show evSs _ _ _ _ (envR st f s pick (some (Pk.plan .jeq)) (some (.int (alikeI f s))) (some (.ref (L + 14))) (some (.ref (L + 15))) (some (.ref (L + 16))) none none none) H = _
    rw [alike_eq f s]
    exact ss_nx s5
  | jlit x =>
    refine ⟨[], ?_⟩
    rw [List.append_nil]
    have e4 : evS (FN (n + 10)) pg.above WF S4 (envR st f s pick (some (Pk.plan (.jlit x))) (some (Pk.told f s (.jlit x))) (some (.ref (L + 14))) (some (.ref (L + 15))) (some (.ref (L + 16))) none none none) H = some (.nx (envR st f s pick (some (Pk.plan (.jlit x))) (some (.int (Pk.most (rowsN f) (rowsN s) (.jlit x)))) (some (.ref (L + 14))) (some (.ref (L + 15))) (some (.ref (L + 16))) none none none) H) := by
      refine (ifs_t (lit_wordX (p := Pk.plan (.jlit x)) (w := "literal") rfl rfl (by decide))).trans ?_
      have ei : evE (FN (n + 10)) (.idx (.idx (.var 4) (.int 1)) (.int 1)) (envR st f s pick (some (Pk.plan (.jlit x))) (some (Pk.told f s (.jlit x))) (some (.ref (L + 14))) (some (.ref (L + 15))) (some (.ref (L + 16))) none none none) H = some (.ok x H) := by
        rw [qE_idx, ev_idx (d := Pk.plan (.jlit x)) (e := .tup [.str "literal", x]) rfl (by simp [Pk.plan, joinP, idxD, ix_1]), bnd_ok, qE_int, bnd_ok]
        simp [idxD, ix_1]
      have isd : isD x (.bl true) = some (isT x) := by
        rcases fk with ⟨b, rfl⟩ | rfl
        · cases b <;> rfl
        · rfl
      have et : evT (FN (n + 10)) (.cmp .Is (.idx (.idx (.var 4) (.int 1)) (.int 1)) (.bl true)) (envR st f s pick (some (Pk.plan (.jlit x))) (some (Pk.told f s (.jlit x))) (some (.ref (L + 14))) (some (.ref (L + 15))) (some (.ref (L + 16))) none none none) H = some (.ok (isT x) H) := evT_cmp ei ev_bl (by simp only [cmpD, isd])
      have ev : evE (FN (n + 10)) (.ite (.cmp .Is (.idx (.idx (.var 4) (.int 1)) (.int 1)) (.bl true)) (.bin .Mult (.var 1) (.var 2)) (.int 0)) (envR st f s pick (some (Pk.plan (.jlit x))) (some (Pk.told f s (.jlit x))) (some (.ref (L + 14))) (some (.ref (L + 15))) (some (.ref (L + 16))) none none none) H = some (.ok (.int (Pk.most (rowsN f) (rowsN s) (.jlit x))) H) := by
        rw [qE_ite, et, bnd_ok]
        show _ = some (Res.ok (D.int ((if isT x = true then (rowsN f).length * (rowsN s).length else 0 : Nat) : Int)) H)
        cases isT x
        · simp only [Bool.false_eq_true, if_false]
          rw [qE_int]; rfl
        · simp only [if_true]
          rw [qE_bin, ev_var (d := .int f) rfl, bnd_ok, ev_var (d := .int s) rfl, bnd_ok]
          simp only [binD]
          rw [if_pos (.inl (small_of (by omega) (by omega))), ← prod]
          rfl
      have e5 : evS (FN (n + 10)) pg.above WF (.asg (.tg (.nm 5)) (.ite (.cmp .Is (.idx (.idx (.var 4) (.int 1)) (.int 1)) (.bl true)) (.bin .Mult (.var 1) (.var 2)) (.int 0))) (envR st f s pick (some (Pk.plan (.jlit x))) (some (Pk.told f s (.jlit x))) (some (.ref (L + 14))) (some (.ref (L + 15))) (some (.ref (L + 16))) none none none) H = some (.nx (envR st f s pick (some (Pk.plan (.jlit x))) (some (.int (Pk.most (rowsN f) (rowsN s) (.jlit x)))) (some (.ref (L + 14))) (some (.ref (L + 15))) (some (.ref (L + 16))) none none none) H) := by
        rw [qS_asg_tg, ev]; rfl
      exact (ss_nx e5).trans qSs_nil
    exact (ss_nx e4).trans (ss_nx s5)
  | out =>
    refine ⟨[.lst (outersP (rowsN f) (rowsN s) eqC)], ?_⟩
    have lm := lmade_out (n + 9) H (L + 15) (L + 16) (rowsN f) (rowsN s) o1 o2 (rowsN_S f) (rowsN_S s) (by rw [lA]; exact lf) (by rw [lB]; exact ls)
    have ec : evE (FN (n + 10)) (.blt .len (.cons (.call "_law_made" (.cons (.var 4) (.cons (.var 7) (.cons (.var 8) .nil)))) .nil)) (envR st f s pick (some (Pk.plan .out)) (some (Pk.told f s .out)) (some (.ref (L + 14))) (some (.ref (L + 15))) (some (.ref (L + 16))) none none none) H = some (.ok (.int (outersP (rowsN f) (rowsN s) eqC).length) (H ++ [.lst (outersP (rowsN f) (rowsN s) eqC)])) := by
      rw [qE_blt, evLc (ev_call3 (d1 := outerP) (d2 := .ref (L + 15)) (d3 := .ref (L + 16)) (ev_var rfl) (ev_var rfl) (ev_var rfl) lm) evL0, bnd_ok]
      simp only [bltD, items_of (at_last H (.lst (outersP (rowsN f) (rowsN s) eqC))), Option.map, nvRes]
    have e5 : evS (FN (n + 10)) pg.above WF S5 (envR st f s pick (some (Pk.plan .out)) (some (Pk.told f s .out)) (some (.ref (L + 14))) (some (.ref (L + 15))) (some (.ref (L + 16))) none none none) H = some (.nx (envR st f s pick (some (Pk.plan .out)) (some (.int (Pk.most (rowsN f) (rowsN s) .out))) (some (.ref (L + 14))) (some (.ref (L + 15))) (some (.ref (L + 16))) none none none) (H ++ [.lst (outersP (rowsN f) (rowsN s) eqC)])) := by
      refine (ifs_t (evT_cmp (v := true) (ev_var (d := .non) rfl) ev_non rfl)).trans ?_
      have e6 : evS (FN (n + 10)) pg.above WF (.asg (.tg (.nm 5)) (.blt .len (.cons (.call "_law_made" (.cons (.var 4) (.cons (.var 7) (.cons (.var 8) .nil)))) .nil))) (envR st f s pick (some (Pk.plan .out)) (some (Pk.told f s .out)) (some (.ref (L + 14))) (some (.ref (L + 15))) (some (.ref (L + 16))) none none none) H = some (.nx (envR st f s pick (some (Pk.plan .out)) (some (.int (Pk.most (rowsN f) (rowsN s) .out))) (some (.ref (L + 14))) (some (.ref (L + 15))) (some (.ref (L + 16))) none none none) (H ++ [.lst (outersP (rowsN f) (rowsN s) eqC)])) := by
        rw [qS_asg_tg, ec, sB_ok]
        rfl
      exact (ss_nx e6).trans qSs_nil
    exact (ss_nx (s4F (w := "outer") rfl (by decide))).trans (ss_nx e5)
/-- what is due -/
theorem st6 (k : Pk) (fk : k.fit) : ∃ (d : D) (G : Hb), evS (FN (n + 10)) pg.above WF S6 (envR st f s pick (some k.plan) (some (.int (k.most (rowsN f) (rowsN s)))) (some (.ref (L + 14))) (some (.ref (L + 15))) (some (.ref (L + 16))) none none none) H
      = some (.nx (envR st f s pick (some k.plan) (some (.int (k.most (rowsN f) (rowsN s)))) (some (.ref (L + 14))) (some (.ref (L + 15))) (some (.ref (L + 16))) (some d) none none) (H ++ G)) ∧
      ((due (k.most (rowsN f) (rowsN s) ≤ 2000) (k.rows (rowsN f) (rowsN s)) = none ∧ d = .non) ∨ ∃ rows, due (k.most (rowsN f) (rowsN s) ≤ 2000) (k.rows (rowsN f) (rowsN s)) = some rows ∧ d = .ref H.length ∧ (H ++ G)[H.length]? = some (.lst rows)) := by
  have em : evE (FN (n + 10)) (.blt .max (.cons (.var 5) (.cons (.var 1) (.cons (.var 2) .nil)))) (envR st f s pick (some k.plan) (some (.int (k.most (rowsN f) (rowsN s)))) (some (.ref (L + 14))) (some (.ref (L + 15))) (some (.ref (L + 16))) none none none) H = some (.ok (.int (if (s : Int) > (if (f : Int) > (k.most (rowsN f) (rowsN s) : Int) then (f : Int) else (k.most (rowsN f) (rowsN s) : Int)) then (s : Int) else (if (f : Int) > (k.most (rowsN f) (rowsN s) : Int) then (f : Int) else (k.most (rowsN f) (rowsN s) : Int)))) H) := by
    rw [qE_blt, evL3 (ev_var (d := .int (k.most (rowsN f) (rowsN s))) rfl) (ev_var (d := .int f) rfl) (ev_var (d := .int s) rfl), bnd_ok]
    rfl
  have et := evT_cmp (op := .LtE) (v := decide (k.most (rowsN f) (rowsN s) ≤ 2000)) em (ev_int (i := 2000)) (by
    simp only [cmpD]
    congr 1
    apply decide_eq_decide.mpr
    by_cases h1 : (f : Int) > (k.most (rowsN f) (rowsN s) : Int)
    · rw [if_pos h1]
      by_cases h2 : (s : Int) > (f : Int)
      · rw [if_pos h2]; omega
      · rw [if_neg h2]; omega
    · rw [if_neg h1]
      by_cases h2 : (s : Int) > (k.most (rowsN f) (rowsN s) : Int)
      · rw [if_pos h2]; omega
      · rw [if_neg h2]; omega)
  by_cases b : k.most (rowsN f) (rowsN s) ≤ 2000
  · rw [decide_eq_true b] at et
    obtain ⟨m, H', lm, rfl, rfl⟩ := lmade_pk n H (L + 15) (L + 16) (rowsN f) (rowsN s) o1 o2 (rowsN_S f) (rowsN_S s) (by rw [rowsN_len]; exact lf) (by rw [rowsN_len]; exact ls) k fk
    refine ⟨.ref H.length, [.lst (k.law (rowsN f) (rowsN s))], ?_, .inr ⟨k.rows (rowsN f) (rowsN s), by unfold due; rw [if_pos b], rfl, by rw [law_rows, at_last]⟩⟩
    rw [qS_asg_tg, qE_ite, et, bnd_ok]
    simp only []
    rw [ev_call3 (d1 := k.plan) (d2 := .ref (L + 15)) (d3 := .ref (L + 16)) (ev_var rfl) (ev_var rfl) (ev_var rfl) lm]
    rfl
  · rw [decide_eq_false b] at et
    refine ⟨.non, [], ?_, .inl ⟨by unfold due; rw [if_neg b], rfl⟩⟩
    rw [qS_asg_tg, qE_ite, et, bnd_ok, List.append_nil]
    simp only []
    rw [qE_non]
    rfl
end
end Pl

set_option Elab.async false
set_option linter.all false
set_option maxRecDepth 100000
set_option autoImplicit false
set_option maxHeartbeats 0
/-! Pl46: the law's question, whole. -/
namespace Pl
open PySem Ev PK Qe
/-- what is due, as a value -/
def DueD (st : Nat) (o : Option (List D)) (d : D) (H : Hb) : Prop :=
  (o = none ∧ d = .non) ∨ ∃ rows m, o = some rows ∧ d = .ref m ∧ m ≠ st ∧ H[m]? = some (.lst rows) ∧ (∀ x ∈ rows, rowOk x = true) ∧ rows.length ≤ 2000
theorem DueD.app {st : Nat} {o : Option (List D)} {d : D} {H : Hb} (a : DueD st o d H) (G : Hb) : DueD st o d (H ++ G) := by
  rcases a with a | ⟨rows, m, e1, e2, e3, e4, e5⟩
  · exact .inl a
  · exact .inr ⟨rows, m, e1, e2, e3, at_old e4, e5⟩
/-- what run comes to -/
def RunIs (sc st : Nat) (h : Hb) (f s L : Nat) (plan : D) (o : Option (List D)) : Prop :=
  ∀ (n : Nat) (H : Hb) (p : Nat), Fr sc st h f s L H → (FN (n + 30)).run Str.empty "run" [plan, .ref (L + 14), .ref p] H = res H o
theorem st7 (n : Nat) (h H : Hb) (sc st : Nat) (ns : List Int) (f s : Nat) (lf : f ≤ 2000) (ls : s ≤ 2000) (pick : Int) (L : Nat) (k : Pk) (fk : k.fit) (i : St sc st ns h) (a : Fr sc st h f s L H) (mo : Option D) (d : D)
    (hd : DueD st (due (k.most (rowsN f) (rowsN s) ≤ 2000) (k.rows (rowsN f) (rowsN s))) d H) :
    ∃ (p : D) (d' : D) (H' : Hb) (o : Option (List D)), evS (FN (n + 30)) pg.above WF S7 (envR st f s pick (some k.plan) mo (some (.ref (L + 14))) (some (.ref (L + 15))) (some (.ref (L + 16))) (some d) none none) H
      = some (.nx (envR st f s pick (some p) mo (some (.ref (L + 14))) (some (.ref (L + 15))) (some (.ref (L + 16))) (some d') none none) H') ∧ Fr sc st h f s L H' ∧ DueD st o d' H' ∧ RunIs sc st h f s L p o := by
  have run0 : RunIs sc st h f s L k.plan (due (k.most (rowsN f) (rowsN s) ≤ 2000) (k.rows (rowsN f) (rowsN s))) := fun n H p a => run_pk (n + 9) k fk lf ls a p
  rcases hd with ⟨e, rfl⟩ | ⟨rows, m, e, rfl, mst, hm, hr, hl⟩
  · exact ⟨k.plan, .non, H, none, (ifs_f (evT_andF (evT_cmp (v := false) (ev_var (d := .non) rfl) ev_non rfl))).trans qSs_nil, a, .inl ⟨rfl, rfl⟩, e ▸ run0⟩
  · have c1 : evT (FN (n + 30)) (.cmp .IsNot (.var 9) .non) (envR st f s pick (some k.plan) mo (some (.ref (L + 14))) (some (.ref (L + 15))) (some (.ref (L + 16))) (some (.ref m)) none none) H = some (.ok true H) := evT_cmp (ev_var (d := .ref m) rfl) ev_non rfl
    have c2 := evT_cmp (op := .Lt) (v := decide ((rows.length : Int) < 60)) (len_lst (F := FN (n + 30)) (ρ := envR st f s pick (some k.plan) mo (some (.ref (L + 14))) (some (.ref (L + 15))) (some (.ref (L + 16))) (some (.ref m)) none none) (x := 9) rfl hm) (ev_int (i := 60)) rfl
    by_cases small : (rows.length : Int) < 60
    · rw [decide_eq_true small] at c2
      obtain ⟨v, p, z, q, v0, v1, hp, en⟩ := next_run (n + 29) H sc st ns 2 (a.state i) (by decide) (by decide)
      have a2 := a.set i (p := p) (z := z) (q := q) hp
      have hm2 : (H.set st (stO sc p z q))[m]? = some (.lst rows) := by rw [set_ne mst]; exact hm
      have c3 := evT_cmp (op := .Eq) (v := decide (v = 0)) (ev_call2 (F := FN (n + 30)) (ρ := envR st f s pick (some k.plan) mo (some (.ref (L + 14))) (some (.ref (L + 15))) (some (.ref (L + 16))) (some (.ref m)) none none) (e1 := .var 0) (e2 := .int 2) (ev_var rfl) ev_int en) (ev_int (i := 0)) (by simp only [cmpD, eqD_int])
      by_cases hv : v = 0
      · rw [decide_eq_true hv] at c3
        have e4 : evS (FN (n + 30)) pg.above WF (.asg (.tg (.nm 4)) (.tup (.cons (.str "distinct") (.cons (.var 4) .nil)))) (envR st f s pick (some k.plan) mo (some (.ref (L + 14))) (some (.ref (L + 15))) (some (.ref (L + 16))) (some (.ref m)) none none) (H.set st (stO sc p z q)) = some (.nx (envR st f s pick (some (distP k.plan)) mo (some (.ref (L + 14))) (some (.ref (L + 15))) (some (.ref (L + 16))) (some (.ref m)) none none) (H.set st (stO sc p z q))) := by
          rw [qS_asg_tg, ev_tupL (evLc ev_str (evLc (ev_var (d := k.plan) rfl) evL0)) (by simp)]; rfl
        obtain ⟨G, ev⟩ := ev_firsts (F := FN (n + 30)) (ρ := envR st f s pick (some (distP k.plan)) mo (some (.ref (L + 14))) (some (.ref (L + 15))) (some (.ref (L + 16))) (some (.ref m)) none none) (m := m) (rs := rows) rfl hm2 hr (by omega) (fun _ => rfl) (fun _ => rfl)
        have e5 : evS (FN (n + 30)) pg.above WF (.asg (.tg (.nm 9)) (.comp true (.nm 12) (.rng1 (.blt .len (.cons (.var 9) .nil))) (.cmp .NotIn (.idx (.var 9) (.var 12)) (.slc (.var 9) .none (.some (.var 12)))) (.idx (.var 9) (.var 12)))) (envR st f s pick (some (distP k.plan)) mo (some (.ref (L + 14))) (some (.ref (L + 15))) (some (.ref (L + 16))) (some (.ref m)) none none) (H.set st (stO sc p z q)) = some (.nx (envR st f s pick (some (distP k.plan)) mo (some (.ref (L + 14))) (some (.ref (L + 15))) (some (.ref (L + 16))) (some (.ref ((H.set st (stO sc p z q)) ++ G).length)) none none) (((H.set st (stO sc p z q)) ++ G) ++ [.lst (nub rows)])) := by
          rw [qS_asg_tg, ev]; rfl
        have a3 := (a2.app G).app [.lst (nub rows)]
        have ne3 : ((H.set st (stO sc p z q)) ++ G).length ≠ st := by
          have := (a2.app G).stp.lt i.lt
          omega
        refine ⟨distP k.plan, _, _, some (nub rows), (ifs_t (evT_andT c1 (evT_andT c2 c3))).trans ((ss_nx e4).trans ((ss_nx e5).trans qSs_nil)), a3, .inr ⟨nub rows, _, rfl, rfl, ne3, at_last _ _, fun x hx => hr x (nub_mem.mp hx), Nat.le_trans (nub_len rows) hl⟩, fun n H p a => ?_⟩
        have := run_pkD (n + 4) k fk lf ls a p
        rw [e] at this
        exact this
      · rw [decide_eq_false hv] at c3
        exact ⟨k.plan, .ref m, _, some rows, (ifs_f (evT_andT c1 (evT_andT c2 c3))).trans qSs_nil, a2, .inr ⟨rows, m, rfl, rfl, mst, hm2, hr, hl⟩, e ▸ run0⟩
    · rw [decide_eq_false small] at c2
      exact ⟨k.plan, .ref m, H, some rows, (ifs_f (evT_andT c1 (evT_andF c2))).trans qSs_nil, a, .inr ⟨rows, m, rfl, rfl, mst, hm, hr, hl⟩, e ▸ run0⟩
abbrev S8b : SxL := .cons (.tryO "NoPlan"
 (.cons (.asg (.tg (.nm 11)) (.call "run" (.cons (.var 4) (.cons (.var 6) (.cons (.lst .nil) .nil)))))
 .nil)
 (.cons (.ifs (.cmp .IsNot (.var 9) .non)
 (.cons (.ret (.bl false))
 .nil)
 .nil)
 (.cons .cont
 .nil)))
 (.cons (.ifs (.or (.cmp .Is (.var 9) .non) (.not (.ex (.call "_law_same" (.cons (.var 11) (.cons (.var 9) .nil))))))
 (.cons (.ret (.bl false))
 .nil)
 .nil)
 .nil)
theorem above_self : pg.above ("NoPlan" : Str) ("NoPlan" : Str) = some true := by decide +kernel
/-- one turn -/
theorem turn8 (n : Nat) (h H : Hb) (sc st : Nat) (f s : Nat) (pick : Int) (L : Nat) (p d : D) (o : Option (List D)) (mo tn fd : Option D) (a : Fr sc st h f s L H) (hd : DueD st o d H) (run : RunIs sc st h f s L p o) :
    ∃ (fd' : Option D) (G : Hb), evSs (FN (n + 30)) pg.above WF S8b (envR st f s pick (some p) mo (some (.ref (L + 14))) (some (.ref (L + 15))) (some (.ref (L + 16))) (some d) tn fd) H = some (.nx (envR st f s pick (some p) mo (some (.ref (L + 14))) (some (.ref (L + 15))) (some (.ref (L + 16))) (some d) tn fd') (H ++ G))
      ∨ evSs (FN (n + 30)) pg.above WF S8b (envR st f s pick (some p) mo (some (.ref (L + 14))) (some (.ref (L + 15))) (some (.ref (L + 16))) (some d) tn fd) H = some (.cont (envR st f s pick (some p) mo (some (.ref (L + 14))) (some (.ref (L + 15))) (some (.ref (L + 16))) (some d) tn fd') (H ++ G)) := by
  have el : evE (FN (n + 30)) (.lst .nil) (envR st f s pick (some p) mo (some (.ref (L + 14))) (some (.ref (L + 15))) (some (.ref (L + 16))) (some d) tn fd) H = some (.ok (.ref H.length) (H ++ [.lst []])) := by
    rw [qE_lst, qL_nil, bnd_ok, if_pos (by simp)]; rfl
  have er : evE (FN (n + 30)) (.call "run" (.cons (.var 4) (.cons (.var 6) (.cons (.lst .nil) .nil)))) (envR st f s pick (some p) mo (some (.ref (L + 14))) (some (.ref (L + 15))) (some (.ref (L + 16))) (some d) tn fd) H = res (H ++ [.lst []]) o :=
    ev_call3 (d1 := p) (d2 := .ref (L + 14)) (ev_var rfl) (ev_var rfl) el (run n _ _ (a.app _))
  rcases hd with ⟨rfl, rfl⟩ | ⟨rows, m, rfl, rfl, mst, hm, hr, hl⟩
  · refine ⟨fd, [.lst []], .inr ?_⟩
    have e1 : evSs (FN (n + 30)) pg.above WF (.cons (.asg (.tg (.nm 11)) (.call "run" (.cons (.var 4) (.cons (.var 6) (.cons (.lst .nil) .nil))))) .nil) (envR st f s pick (some p) mo (some (.ref (L + 14))) (some (.ref (L + 15))) (some (.ref (L + 16))) (some .non) tn fd) H = some (.exc "NoPlan" [] (envR st f s pick (some p) mo (some (.ref (L + 14))) (some (.ref (L + 15))) (some (.ref (L + 16))) (some .non) tn fd) (H ++ [.lst []])) :=
      ss_exc (by rw [qS_asg_tg, er]; rfl)
    have e2 : evSs (FN (n + 30)) pg.above WF (.cons (.ifs (.cmp .IsNot (.var 9) .non) (.cons (.ret (.bl false)) .nil) .nil) (.cons .cont .nil)) (envR st f s pick (some p) mo (some (.ref (L + 14))) (some (.ref (L + 15))) (some (.ref (L + 16))) (some .non) tn fd) (H ++ [.lst []]) = some (.cont (envR st f s pick (some p) mo (some (.ref (L + 14))) (some (.ref (L + 15))) (some (.ref (L + 16))) (some .non) tn fd) (H ++ [.lst []])) := by
      refine (skip (evT_cmp (v := false) (ev_var (d := .non) rfl) ev_non rfl)).trans ?_
      rw [qSs_cons, qS_cont]
    rw [qSs_cons, qS_tryO, e1]
    simp only [above_self, e2, noXS]
  · refine ⟨some (.ref (H ++ [Ob.lst []]).length), [.lst [], .lst rows], .inl ?_⟩
    have e1 : evSs (FN (n + 30)) pg.above WF (.cons (.asg (.tg (.nm 11)) (.call "run" (.cons (.var 4) (.cons (.var 6) (.cons (.lst .nil) .nil))))) .nil) (envR st f s pick (some p) mo (some (.ref (L + 14))) (some (.ref (L + 15))) (some (.ref (L + 16))) (some (.ref m)) tn fd) H = some (.nx (envR st f s pick (some p) mo (some (.ref (L + 14))) (some (.ref (L + 15))) (some (.ref (L + 16))) (some (.ref m)) tn (some (.ref (H ++ [Ob.lst []]).length))) ((H ++ [.lst []]) ++ [.lst rows])) :=
      (ss_nx (by rw [qS_asg_tg, er]; rfl)).trans qSs_nil
    have e2 : evS (FN (n + 30)) pg.above WF (.tryO "NoPlan" (.cons (.asg (.tg (.nm 11)) (.call "run" (.cons (.var 4) (.cons (.var 6) (.cons (.lst .nil) .nil))))) .nil) (.cons (.ifs (.cmp .IsNot (.var 9) .non) (.cons (.ret (.bl false)) .nil) .nil) (.cons .cont .nil))) (envR st f s pick (some p) mo (some (.ref (L + 14))) (some (.ref (L + 15))) (some (.ref (L + 16))) (some (.ref m)) tn fd) H = some (.nx (envR st f s pick (some p) mo (some (.ref (L + 14))) (some (.ref (L + 15))) (some (.ref (L + 16))) (some (.ref m)) tn (some (.ref (H ++ [Ob.lst []]).length))) ((H ++ [.lst []]) ++ [.lst rows])) := by
      rw [qS_tryO, e1]
    have sm := lsame_rows (n + 27) ((H ++ [.lst []]) ++ [.lst rows]) (H ++ [Ob.lst []]).length m rows (at_last _ _) (at_old (at_old hm)) hr (by omega)
    refine (ss_nx e2).trans ((skip (evT_orF (evT_cmp (v := false) (ev_var (d := .ref m) rfl) ev_non rfl) (evT_not (evT_ex (ev_call2 (d1 := .ref (H ++ [Ob.lst []]).length) (d2 := .ref m) (ev_var rfl) (ev_var rfl) sm))))).trans ?_)
    rw [qSs_nil, List.append_assoc]
    rfl
theorem turns8 (n : Nat) (h H : Hb) (sc st : Nat) (f s : Nat) (pick : Int) (L : Nat) (p d : D) (o : Option (List D)) (mo tn fd : Option D) (a : Fr sc st h f s L H) (hd : DueD st o d H) (run : RunIs sc st h f s L p o) :
    ∃ (tn' fd' : Option D) (G : Hb), evS (FN (n + 30)) pg.above WF (.fors (.nm 10) (.rng1 (.int 2)) S8b) (envR st f s pick (some p) mo (some (.ref (L + 14))) (some (.ref (L + 15))) (some (.ref (L + 16))) (some d) tn fd) H = some (.nx (envR st f s pick (some p) mo (some (.ref (L + 14))) (some (.ref (L + 15))) (some (.ref (L + 16))) (some d) tn' fd') (H ++ G)) := by
  have it : evI (FN (n + 30)) (.rng1 (.int 2)) (envR st f s pick (some p) mo (some (.ref (L + 14))) (some (.ref (L + 15))) (some (.ref (L + 16))) (some d) tn fd) H = some (.ok (.rng 0 2) H) := by
    rw [qI_rng1, qE_int, bnd_ok]; rfl
  have step : ∀ (m i : Nat) (H : Hb) (tn fd : Option D), i < 2 → Fr sc st h f s L H → DueD st o d H → ∃ (tn' fd' : Option D) (G : Hb), forLoop (.rng 0 2) (.nm 10) (evSs (FN (n + 30)) pg.above WF S8b) (m + 1) i (envR st f s pick (some p) mo (some (.ref (L + 14))) (some (.ref (L + 15))) (some (.ref (L + 16))) (some d) tn fd) H = forLoop (.rng 0 2) (.nm 10) (evSs (FN (n + 30)) pg.above WF S8b) m (i + 1) (envR st f s pick (some p) mo (some (.ref (L + 14))) (some (.ref (L + 15))) (some (.ref (L + 16))) (some d) tn' fd') (H ++ G) := by
    intro m i H tn fd lt a hd
    obtain ⟨fd', G, e⟩ := turn8 n h H sc st f s pick L p d o mo (some (.int (0 + (i : Int)))) fd a hd run
    refine ⟨some (.int (0 + (i : Int))), fd', G, ?_⟩
    conv => lhs; rw [forLoop]
    simp only [It.at, if_pos lt]
    have b : bindTg (envR st f s pick (some p) mo (some (.ref (L + 14))) (some (.ref (L + 15))) (some (.ref (L + 16))) (some d) tn fd) (.nm 10) (.int (0 + (i : Int))) = some (envR st f s pick (some p) mo (some (.ref (L + 14))) (some (.ref (L + 15))) (some (.ref (L + 16))) (some d) (some (.int (0 + (i : Int)))) fd) := rfl
    simp only [b]
    rcases e with e | e <;> simp only [e]
  obtain ⟨t1, d1, G1, e1⟩ := step 2 0 H tn fd (by decide) a hd
  obtain ⟨t2, d2, G2, e2⟩ := step 1 1 (H ++ G1) t1 d1 (by decide) (a.app _) (hd.app _)
  refine ⟨t2, d2, G1 ++ G2, ?_⟩
  rw [qS_fors, it, sB_ok]
  show forLoop _ _ _ 3 0 _ _ = _
  rw [e1, e2, List.append_assoc]
  simp only [forLoop, It.at]
  rfl
theorem k_right : keys.lookup (Str.empty, ("_law_right" : Str)) = some fUlaw_right := by rfl
/-- the law's question is answered with True -/
theorem right_run (n : Nat) (h : Hb) (sc st : Nat) (ns : List Int) (f s : Nat) (lf : f ≤ 2000) (ls : s ≤ 2000) (pick : Int) (p0 : 0 ≤ pick) (p1 : pick < 9) (i : St sc st ns h) :
    ∃ H, Stp sc st h H ∧ (FN (n + 31)).run Str.empty "_law_right" [.ref st, .int f, .int s, .int pick] h = some (.ok (.bl true) H) := by
  obtain ⟨k, H1, fk, sH1, e1⟩ := st1 (n + 28) h sc st ns f s lf ls pick p0 p1 i
  have a3 : Fr sc st h f s H1.length (H1 ++ HB H1.length f s) := ⟨H1, [], by rw [List.append_nil], rfl, sH1⟩
  obtain ⟨G5, e5⟩ := st45 (n + 20) (H1 ++ HB H1.length f s) st f s lf ls pick H1.length (a3.at_ 15 _ rfl) (a3.at_ 16 _ rfl) k fk (ss := .cons S6 (.cons S7 (.cons (.fors (.nm 10) (.rng1 (.int 2)) S8b) (.cons (.ret (.bl true)) .nil))))
  have a5 := a3.app G5
  obtain ⟨d, G6, e6, hd⟩ := st6 (n + 20) ((H1 ++ HB H1.length f s) ++ G5) st f s lf ls pick H1.length (a5.at_ 15 _ rfl) (a5.at_ 16 _ rfl) k fk
  have a6 := a5.app G6
  have hd6 : DueD st (due (k.most (rowsN f) (rowsN s) ≤ 2000) (k.rows (rowsN f) (rowsN s))) d (((H1 ++ HB H1.length f s) ++ G5) ++ G6) := by
    rcases hd with ⟨e, rfl⟩ | ⟨rows, e, rfl, hm⟩
    · exact .inl ⟨e, rfl⟩
    · have g := good_pk k (rowsN_S f) (rowsN_S s) rows e
      exact .inr ⟨rows, _, e, rfl, by have := a5.stp.lt i.lt; omega, hm, g.1, g.2⟩
  obtain ⟨p, d', H7, o, e7, a7, hd7, run⟩ := st7 n h (((H1 ++ HB H1.length f s) ++ G5) ++ G6) sc st ns f s lf ls pick H1.length k fk i a6 (some (.int (k.most (rowsN f) (rowsN s)))) d hd6
  obtain ⟨t8, f8, G8, e8⟩ := turns8 n h H7 sc st f s pick H1.length p d' o (some (.int (k.most (rowsN f) (rowsN s)))) none none a7 hd7 run
  have e9 : evSs (FN (n + 30)) pg.above WF fUlaw_right.body (startEn fUlaw_right [.ref st, .int f, .int s, .int pick]) h = some (.ret (.bl true) (H7 ++ G8)) :=
    (ss_nx e1).trans ((st23 (n + 28) H1 st f s lf ls pick _ _).trans (e5.trans ((ss_nx e6).trans ((ss_nx e7).trans ((ss_nx e8).trans (ret_ev ev_bl))))))
  obtain ⟨p', z, q, G, hp, e⟩ := (a7.app G8).stp
  obtain ⟨H9, eH, sH⟩ := gc_stp (d := .bl true) i hp rfl e
  exact ⟨H9, sH, by rw [run_of k_right, run_ret (d := fUlaw_right) rfl e9, eH]⟩
end Pl

set_option Elab.async false
set_option linter.all false
set_option maxRecDepth 100000
set_option autoImplicit false
set_option maxHeartbeats 0
/-! Pl47: the plain law of k99. -/
namespace Pl
open PySem Ev PK Qe
theorem k_counts : keys.lookup (Str.empty, ("_law_counts" : Str)) = some fUlaw_counts := by rfl
theorem k_law : keys.lookup (Str.empty, ("law" : Str)) = some f_law := by rfl
def pr2 (a b : Nat) : D := .tup [.int a, .int b]
theorem at_mem {ds : List D} {v : Int} (v0 : 0 ≤ v) (v1 : v < ds.length) : ∃ d ∈ ds, ixD ds v = some d := by
  obtain ⟨k, rfl⟩ : ∃ k : Nat, v = k := ⟨v.toNat, by omega⟩
  have lt : k < ds.length := by omega
  exact ⟨ds[k], List.getElem_mem lt, by rw [ix_nat, List.getElem?_eq_getElem lt]⟩
/-- [..][_law_next(state, n)] -/
theorem ev_draw (n : Nat) {H : Hb} {ρ : En} {x sc st : Nat} {ns : List Int} {es : ExL} {ds : List D} {L : Int} (el : evL (FN (n + 1)) es ρ H = some (.ok ds H)) (i : St sc st ns H) (g : getVar ρ x = some (.ref st)) (hl : (ds.length : Int) = L) (l0 : 0 < L) (l1 : L < 1000) :
    ∃ d ∈ ds, ∃ K, Stp sc st H K ∧ evE (FN (n + 1)) (.idx (.lst es) (.call "_law_next" (.cons (.var x) (.cons (.int L) .nil)))) ρ H = some (.ok d K) := by
  obtain ⟨v, p, z, q, v0, v1, hp, e⟩ := next_run n (H ++ [.lst ds]) sc st ns L (i.app _) l0 l1
  obtain ⟨d, hd, hi⟩ := at_mem (ds := ds) v0 (by omega)
  have lt := i.lt
  refine ⟨d, hd, _, ⟨p, z, q, [.lst ds], hp, List.set_append_left _ _ lt⟩, ?_⟩
  rw [qE_idx, qE_lst, el, bnd_ok, if_pos (by rw [sizeLine_eq']; omega)]
  simp only [Ev.newList, bnd_ok]
  rw [ev_call2 (ev_var g) ev_int e, bnd_ok]
  simp only [idxD]
  rw [set_ne (by omega), at_last]
  simp only [hi]
def pairs13 : List D := [pr2 40 50, pr2 50 40, pr2 20 100, pr2 1 2000, pr2 2000 1, pr2 23 87, pr2 3 667, pr2 29 69, pr2 45 45, pr2 44 45, pr2 0 2000, pr2 7 9, pr2 80 80]
theorem pr_ev {F : Fn} {ρ : En} {H : Hb} {a b : Nat} : evE F (.tup (.cons (.int a) (.cons (.int b) .nil))) ρ H = some (.ok (pr2 a b) H) := ev_tupL (evLc ev_int (evLc ev_int evL0)) (by simp)
def PairOk (d : D) : Prop := ∃ a b : Nat, d = pr2 a b ∧ a ≤ 2000 ∧ b ≤ 2000
theorem pairOk {a b : Nat} (h1 : a ≤ 2000) (h2 : b ≤ 2000) : PairOk (pr2 a b) := ⟨a, b, rfl, h1, h2⟩
theorem counts_run (n : Nat) (h : Hb) (sc st : Nat) (ns : List Int) (i : St sc st ns h) : ∃ d H, PairOk d ∧ Stp sc st h H ∧ (FN (n + 2)).run Str.empty "_law_counts" [.ref st] h = some (.ok d H) := by
  obtain ⟨v, p, z, q, v0, v1, hp, e⟩ := next_run n (h ++ [.lst pairs13]) sc st ns 13 (i.app _) (by decide) (by decide)
  have lt := i.lt
  obtain ⟨d, hd, hi⟩ := at_mem (ds := pairs13) v0 (by simp only [pairs13, List.length_cons, List.length_nil]; omega)
  have ok : PairOk d := by
    simp only [pairs13, List.mem_cons, List.not_mem_nil, or_false] at hd
    rcases hd with rfl | rfl | rfl | rfl | rfl | rfl | rfl | rfl | rfl | rfl | rfl | rfl | rfl <;> exact pairOk (by decide) (by decide)
  have nr : noRef d = true := by obtain ⟨a, b, rfl, -, -⟩ := ok; rfl
  have e1 : evS (FN (n + 1)) pg.above WF (.asg (.tg (.nm 1)) (.lst (.cons (.tup (.cons (.int 40) (.cons (.int 50) .nil))) (.cons (.tup (.cons (.int 50) (.cons (.int 40) .nil))) (.cons (.tup (.cons (.int 20) (.cons (.int 100) .nil))) (.cons (.tup (.cons (.int 1) (.cons (.int 2000) .nil))) (.cons (.tup (.cons (.int 2000) (.cons (.int 1) .nil))) (.cons (.tup (.cons (.int 23) (.cons (.int 87) .nil))) (.cons (.tup (.cons (.int 3) (.cons (.int 667) .nil))) (.cons (.tup (.cons (.int 29) (.cons (.int 69) .nil))) (.cons (.tup (.cons (.int 45) (.cons (.int 45) .nil))) (.cons (.tup (.cons (.int 44) (.cons (.int 45) .nil))) (.cons (.tup (.cons (.int 0) (.cons (.int 2000) .nil))) (.cons (.tup (.cons (.int 7) (.cons (.int 9) .nil))) (.cons (.tup (.cons (.int 80) (.cons (.int 80) .nil))) .nil))))))))))))))) [some (.ref st), none] h = some (.nx [some (.ref st), some (.ref h.length)] (h ++ [.lst pairs13])) := by
    have el := evLc (F := FN (n + 1)) (ρ := [some (.ref st), none]) (h := h) (pr_ev (a := 40) (b := 50)) (evLc (pr_ev (a := 50) (b := 40)) (evLc (pr_ev (a := 20) (b := 100)) (evLc (pr_ev (a := 1) (b := 2000)) (evLc (pr_ev (a := 2000) (b := 1)) (evLc (pr_ev (a := 23) (b := 87)) (evLc (pr_ev (a := 3) (b := 667)) (evLc (pr_ev (a := 29) (b := 69)) (evLc (pr_ev (a := 45) (b := 45)) (evLc (pr_ev (a := 44) (b := 45)) (evLc (pr_ev (a := 0) (b := 2000)) (evLc (pr_ev (a := 7) (b := 9)) (evLc (pr_ev (a := 80) (b := 80)) evL0))))))))))))
    rw [qS_asg_tg, qE_lst]
    refine Eq.trans (congrArg (fun z => sB _ (bnd z _) _) el) ?_
    rw [bnd_ok, if_pos (by simp [sizeLine_eq'])]
    rfl
  have e2 : evE (FN (n + 1)) (.idx (.var 1) (.call "_law_next" (.cons (.var 0) (.cons (.blt .len (.cons (.var 1) .nil)) .nil)))) [some (.ref st), some (.ref h.length)] (h ++ [Ob.lst pairs13]) = some (.ok d ((h ++ [Ob.lst pairs13]).set st (stO sc p z q))) := by
    rw [qE_idx, ev_var (d := .ref h.length) rfl, bnd_ok, ev_call2 (ev_var (d := .ref st) rfl) (len_lst (x := 1) rfl (at_last h (.lst pairs13))) e, bnd_ok]
    simp only [idxD]
    rw [set_ne (by omega), at_last]
    simp only [hi]
  have e3 : evSs (FN (n + 1)) pg.above WF fUlaw_counts.body (startEn fUlaw_counts [.ref st]) h = _ := (ss_nx e1).trans (ret_ev e2)
  obtain ⟨H, eH, sH⟩ := gc_stp (d := d) i hp nr (show (h ++ [Ob.lst pairs13]).set st (stO sc p z q) = h.set st (stO sc p z q) ++ [Ob.lst pairs13] from List.set_append_left _ _ lt)
  exact ⟨d, H, ok, sH, by rw [run_of k_counts, run_ret (d := fUlaw_counts) rfl e3, eH]⟩
abbrev envL (a b : Option D) : En := [some (.kl []), some (.ref 1), a, b]
theorem plain (n : Nat) (ns : List Int) : ∃ h', (FN (n + 32)).run Str.empty "law" [.kl (ns.map .int)] [] = some (.ok (.bl true) h') := by
  have i0 : St 0 1 ns [.lst (ns.map .int), stO 0 0 0 1] := ⟨by decide, rfl, 0, 0, 1, by decide, rfl⟩
  have e1 : evS (FN (n + 31)) pg.above WF (.asg (.tg (.nm 1)) (.lst (.cons (.blt .list (.cons (.var 0) .nil)) (.cons (.int 0) (.cons (.int 0) (.cons (.int 1) .nil)))))) [some (.kl (ns.map .int)), none, none, none] [] = some (.nx [some (.kl (ns.map .int)), some (.ref 1), none, none] [.lst (ns.map .int), stO 0 0 0 1]) := by
    have el : evE (FN (n + 31)) (.blt .list (.cons (.var 0) .nil)) [some (.kl (ns.map .int)), none, none, none] [] = some (.ok (.ref 0) [.lst (ns.map .int)]) := by
      rw [qE_blt, evL1 (ev_var (d := .kl (ns.map .int)) rfl), bnd_ok]; rfl
    rw [qS_asg_tg, qE_lst, evLc el (evLc ev_int (evLc ev_int (evLc ev_int evL0))), bnd_ok, if_pos (by simp [sizeLine_eq'])]
    rfl
  obtain ⟨d1, H1, ⟨f1, s1, rfl, lf1, ls1⟩, sp1, c1⟩ := counts_run (n + 29) _ 0 1 ns i0
  have i1 := sp1.st i0
  have e2 : evS (FN (n + 31)) pg.above WF (.asg (.tg (.tu [2, 3])) (.call "_law_counts" (.cons (.var 1) .nil))) [some (.kl (ns.map .int)), some (.ref 1), none, none] [.lst (ns.map .int), stO 0 0 0 1] = some (.nx [some (.kl (ns.map .int)), some (.ref 1), some (.int f1), some (.int s1)] H1) := by
    rw [qS_asg_tg, ev_call1 (ev_var (d := .ref 1) rfl) c1]; rfl
  -- the first question
  obtain ⟨v, p, z, q, v0, v1, hp, c2⟩ := next_run (n + 30) H1 0 1 ns 9 i1 (by decide) (by decide)
  have i2 := i1.set (p := p) (z := z) (s := q) hp
  obtain ⟨H2, sp2, c3⟩ := right_run n _ 0 1 ns f1 s1 lf1 ls1 v v0 v1 i2
  have i3 := sp2.st i2
  have call4 : ∀ {ρ : En} {h h' : Hb} {e : Ex} {a b c d : D} {R : RO D}, getVar ρ 1 = some a → getVar ρ 2 = some b → getVar ρ 3 = some c → evE (FN (n + 31)) e ρ h = some (.ok d h') → (FN (n + 31)).run Str.empty "_law_right" [a, b, c, d] h' = R → evE (FN (n + 31)) (.call "_law_right" (.cons (.var 1) (.cons (.var 2) (.cons (.var 3) (.cons e .nil))))) ρ h = R := by
    intro ρ h h' e a b c d R ga gb gc ge hR
    rw [qE_call, evLc (ev_var ga) (evLc (ev_var gb) (evLc (ev_var gc) (evLc ge evL0))), bnd_ok, hR]
  have t1 := call4 (ρ := [some (.kl (ns.map .int)), some (.ref 1), some (.int f1), some (.int s1)]) (h := H1) rfl rfl rfl (ev_call2 (e1 := .var 1) (d1 := .ref 1) (ev_var rfl) (ev_int (i := 9)) c2) c3
  -- the second one
  have el4 : ∀ {ρ : En} {H : Hb} {a b c d e f g k : Nat}, evL (FN (n + 31)) (.cons (.tup (.cons (.int a) (.cons (.int b) .nil))) (.cons (.tup (.cons (.int c) (.cons (.int d) .nil))) (.cons (.tup (.cons (.int e) (.cons (.int f) .nil))) (.cons (.tup (.cons (.int g) (.cons (.int k) .nil))) .nil)))) ρ H = some (.ok [pr2 a b, pr2 c d, pr2 e f, pr2 g k] H) := by
    intro ρ H a b c d e f g k
    exact evLc pr_ev (evLc pr_ev (evLc pr_ev (evLc pr_ev evL0)))
  obtain ⟨d2, m2, H3, sp3, c4⟩ := ev_draw (n + 30) (ρ := [some (.kl (ns.map .int)), some (.ref 1), some (.int f1), some (.int s1)]) (x := 1) (L := 4) (el4 (a := 40) (b := 50) (c := 20) (d := 100) (e := 1) (f := 2000) (g := 50) (k := 40)) i3 rfl rfl (by decide) (by decide)
  have ok2 : PairOk d2 := by
    simp only [List.mem_cons, List.not_mem_nil, or_false] at m2
    rcases m2 with rfl | rfl | rfl | rfl <;> exact pairOk (by decide) (by decide)
  obtain ⟨f2, s2, rfl, lf2, ls2⟩ := ok2
  have i4 := sp3.st i3
  have e4 : evS (FN (n + 31)) pg.above WF (.asg (.tg (.tu [2, 3])) (.idx (.lst (.cons (.tup (.cons (.int 40) (.cons (.int 50) .nil))) (.cons (.tup (.cons (.int 20) (.cons (.int 100) .nil))) (.cons (.tup (.cons (.int 1) (.cons (.int 2000) .nil))) (.cons (.tup (.cons (.int 50) (.cons (.int 40) .nil))) .nil))))) (.call "_law_next" (.cons (.var 1) (.cons (.int 4) .nil))))) [some (.kl (ns.map .int)), some (.ref 1), some (.int f1), some (.int s1)] H2 = some (.nx [some (.kl (ns.map .int)), some (.ref 1), some (.int f2), some (.int s2)] H3) := by
    rw [qS_asg_tg]
    exact congrArg (fun z => sB _ z _) c4
  have el2 : ∀ {ρ : En} {H : Hb}, evL (FN (n + 31)) (.cons (.int 0) (.cons (.int 7) .nil)) ρ H = some (.ok [.int 0, .int 7] H) := evLc ev_int (evLc ev_int evL0)
  obtain ⟨d3, m3, H4, sp4, c5⟩ := ev_draw (n + 30) (ρ := [some (.kl (ns.map .int)), some (.ref 1), some (.int f2), some (.int s2)]) (x := 1) (L := 2) el2 i4 rfl rfl (by decide) (by decide)
  have i5 := sp4.st i4
  obtain ⟨v3, w30, w31, rfl⟩ : ∃ v : Int, 0 ≤ v ∧ v < 9 ∧ d3 = .int v := by
    simp only [List.mem_cons, List.not_mem_nil, or_false] at m3
    rcases m3 with rfl | rfl
    · exact ⟨0, by decide, by decide, rfl⟩
    · exact ⟨7, by decide, by decide, rfl⟩
  obtain ⟨H5, sp5, c6⟩ := right_run n H4 0 1 ns f2 s2 lf2 ls2 v3 w30 w31 i5
  have i6 := sp5.st i5
  have t2 := call4 (ρ := [some (.kl (ns.map .int)), some (.ref 1), some (.int f2), some (.int s2)]) (h := H3) rfl rfl rfl c5 c6
  -- the third one
  obtain ⟨d4, m4, H6, sp6, c7⟩ := ev_draw (n + 30) (ρ := [some (.kl (ns.map .int)), some (.ref 1), some (.int f2), some (.int s2)]) (x := 1) (L := 4) (el4 (a := 3) (b := 667) (c := 29) (d := 69) (e := 23) (f := 87) (g := 667) (k := 3)) i6 rfl rfl (by decide) (by decide)
  have ok4 : PairOk d4 := by
    simp only [List.mem_cons, List.not_mem_nil, or_false] at m4
    rcases m4 with rfl | rfl | rfl | rfl <;> exact pairOk (by decide) (by decide)
  obtain ⟨f4, s4, rfl, lf4, ls4⟩ := ok4
  have i7 := sp6.st i6
  have e7 : evS (FN (n + 31)) pg.above WF (.asg (.tg (.tu [2, 3])) (.idx (.lst (.cons (.tup (.cons (.int 3) (.cons (.int 667) .nil))) (.cons (.tup (.cons (.int 29) (.cons (.int 69) .nil))) (.cons (.tup (.cons (.int 23) (.cons (.int 87) .nil))) (.cons (.tup (.cons (.int 667) (.cons (.int 3) .nil))) .nil))))) (.call "_law_next" (.cons (.var 1) (.cons (.int 4) .nil))))) [some (.kl (ns.map .int)), some (.ref 1), some (.int f2), some (.int s2)] H5 = some (.nx [some (.kl (ns.map .int)), some (.ref 1), some (.int f4), some (.int s4)] H6) := by
    rw [qS_asg_tg]
    exact congrArg (fun z => sB _ z _) c7
  have el3 : ∀ {ρ : En} {H : Hb}, evL (FN (n + 31)) (.cons (.int 0) (.cons (.int 1) (.cons (.int 7) .nil))) ρ H = some (.ok [.int 0, .int 1, .int 7] H) := evLc ev_int (evLc ev_int (evLc ev_int evL0))
  obtain ⟨d5, m5, H7, sp7, c8⟩ := ev_draw (n + 30) (ρ := [some (.kl (ns.map .int)), some (.ref 1), some (.int f4), some (.int s4)]) (x := 1) (L := 3) el3 i7 rfl rfl (by decide) (by decide)
  have i8 := sp7.st i7
  obtain ⟨v5, w50, w51, rfl⟩ : ∃ v : Int, 0 ≤ v ∧ v < 9 ∧ d5 = .int v := by
    simp only [List.mem_cons, List.not_mem_nil, or_false] at m5
    rcases m5 with rfl | rfl | rfl
    · exact ⟨0, by decide, by decide, rfl⟩
    · exact ⟨1, by decide, by decide, rfl⟩
    · exact ⟨7, by decide, by decide, rfl⟩
  obtain ⟨H8, sp8, c9⟩ := right_run n H7 0 1 ns f4 s4 lf4 ls4 v5 w50 w51 i8
  have t3 := call4 (ρ := [some (.kl (ns.map .int)), some (.ref 1), some (.int f4), some (.int s4)]) (h := H6) rfl rfl rfl c8 c9
  have fin : evSs (FN (n + 31)) pg.above WF f_law.body (startEn f_law [.kl (ns.map .int)]) [] = some (.ret (.bl true) H8) :=
    (ss_nx e1).trans ((ss_nx e2).trans ((ss_nx ((ifs_f (evT_not (evT_ex t1))).trans qSs_nil)).trans ((ss_nx e4).trans ((ss_nx ((ifs_f (evT_not (evT_ex t2))).trans qSs_nil)).trans ((ss_nx e7).trans (ret_ev t3))))))
  have g : ∃ h', gc ([] : Hb).length [] (.bl true) H8 = .ok (.bl true) h' := by
    unfold gc
    split
    · exact ⟨[], rfl⟩
    · exact ⟨H8, rfl⟩
  obtain ⟨h', g⟩ := g
  exact ⟨h', by rw [run_of k_law, run_ret (d := f_law) rfl fin, g]⟩
end Pl

open PySem PySem.W PyProof.Rows
theorem PySem.Challenge.cw_kithwhole_k99_steps_make_at_most_2000_ro_holds : PySem.Challenge.rw_kithwhole_k99_steps_make_at_most_2000_ro.Holds := by
  exact EK.holds_of (N := 32) (Wf := 50) (by omega) fun ns _ => by
    rw [EK.pg_eq]
    exact Pl.plain 0 ns

