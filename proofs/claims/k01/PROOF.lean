import PyProof.Rows.All
import Wide.All
import OpenK.AllK
import Wide.FinOn
import HandS.ForMost
import HandS.TupAny
import HandS.Deep
import HandS.Walk
import HandS.Lambda
import HandS.Exc
import HandS.ExcField
import HandS.TupMul
import PyProof.StrBlock2
import HandS.RaiseMore
import HandS.IsInst
import HandS.Style
import HandS.ExcOwn
import HandS.Flow
import HandS.Zip
import HandS.Rev
import HandS.RevRange
import HandS.Iter
import PyProof.Draws
import PyProof.Rows.EnumRows
import HandS.Defaults
import HandS.ExcInit
import HandS.Nested
import KE.KExcSuper
import KE.KSuper
import HandS.Conv
import HandS.Head2
import HandS.HeadEnd
import HandS.HeadHook4
import HandS.HeadWalk
import HandS.Codes
import PySem.Challenge.RW_wiredlaws_k01_lexemes_names_and_labels
set_option Elab.async false
set_option linter.all false
set_option maxRecDepth 100000
/-! Tre1: a small language of trees and its evaluator. Plain Lean; nothing of the model's machine. -/
namespace Tre
open PySem PySem.Spec PyProof.Rows L2

abbrev D := PyData

/-- the law's drawn numbers, as they stand -/
structure Src where
  cells : List Int
  left : Int
  mixed : Int
  turn : Int

def Src.get (s : Src) : Nat → Int
  | 0 => s.left
  | 1 => s.mixed
  | _ => s.turn
def Src.put (s : Src) : Nat → Int → Src
  | 0, n => { s with left := n }
  | 1, n => { s with mixed := n }
  | _, n => { s with turn := n }

inductive R (α : Type) where
  | ok (a : α) (s : Src)
  | exc (c : Nat) (a : List D) (s : Src)
  | stuck

def R.bind {α β : Type} (r : R α) (f : α → Src → R β) : R β := match r with
  | .ok a s => f a s
  | .exc c a s => .exc c a s
  | .stuck => .stuck
@[simp] theorem R.bind_ok {α β : Type} (a : α) (s : Src) (f : α → Src → R β) : (R.ok a s).bind f = f a s := rfl
@[simp] theorem R.bind_exc {α β : Type} (c : Nat) (a : List D) (s : Src) (f : α → Src → R β) : (R.exc c a s : R α).bind f = .exc c a s := rfl
@[simp] theorem R.bind_stuck {α β : Type} (f : α → Src → R β) : (R.stuck : R α).bind f = .stuck := rfl
def R.of {α : Type} (o : Option α) (s : Src) : R α := match o with
  | some a => .ok a s
  | none => .stuck
@[simp] theorem R.of_some {α : Type} (a : α) (s : Src) : R.of (some a) s = .ok a s := rfl
@[simp] theorem R.of_none {α : Type} (s : Src) : (R.of none s : R α) = .stuck := rfl

/-- how a value may be held: frozen, owned by nobody yet (new), looked at in an owner's slot -/
inductive Kd where
  | frz | own | peek
  deriving DecidableEq

inductive Slot where
  | e
  | d (own : Bool) (x : D)
  | src
abbrev Env := List Slot
inductive Arg where
  | d (x : D)
  | src

inductive BI where
  | len | abs | max | min | int | str | repr | sum | all | any | list | tuple | sorted
  deriving DecidableEq
inductive MI where
  | join | split | index
  deriving DecidableEq

inductive T where
  -- expressions
  | c (d : D)
  | v (i : Nat)
  | g (i : Nat)
  | op (o : Operator) (a b : T)
  | cmp (o : CmpOp) (a b : T)
  | cmp2 (o o' : CmpOp) (a b c : T)
  | and (a b : T)
  | or (a b : T)
  | not (a : T)
  | neg (a : T)
  | ife (c a b : T)
  | tup (es : T)
  | lst (es : T)
  | dnew
  | sub (a i : T)
  | sl (a lo hi : T)
  | rev (a : T)
  | call (f : Nat) (es : T)
  | bi (b : BI) (es : T)
  | isi (t : String) (a : T)
  | me (m : MI) (o es : T)
  | lc (tg it cond elt : T) (ws : List Nat)
  | told (f c : Nat) (okS badS : Str) (es : T)
  | srcG (k i : Nat)
  | srcL (i : Nat)
  -- rows of expressions, parts of slices
  | nil
  | cons (a r : T)
  | star (a r : T)
  | csrc (i : Nat) (r : T)
  -- what is walked
  | it (a : T)
  | rng (es : T)
  | enu (a : T)
  | zip (strict : Bool) (a b : T)
  | rvd (a : T)
  | rvr (es : T)
  -- targets
  | ov (i : Nat)
  -- statements
  | seq (a r : T)
  | fz (is : List Nat) (r : T)
  | kl (is : List Nat) (r : T)
  | pass
  | asg (tg e : T)
  | par (tgs es : T)
  | setx (i : Nat) (ix e : T)
  | aug (i : Nat) (o : Operator) (e : T)
  | augx (i : Nat) (ix : T) (o : Operator) (e : T)
  | app (i : Nat) (e : T)
  | ext (i : Nat) (e : T)
  | popS (i : Nat)
  | ex (e : T)
  | ifs (c a b : T)
  | wh (fzs : List Nat) (c b : T)
  | for (tg it b : T)
  | ret (e : T)
  | retv (i : Nat)
  | retn
  | brk
  | cnt
  | raise (c ar : Nat) (es : T)
  | srcS (k i : Nat) (e : T)
  | srcP (i : Nat)

inductive Fl where
  | next (env : Env)
  | ret (own : Bool) (d : D)
  | brk (env : Env)
  | cnt (env : Env)

/-! ### operators -/
def cmulB (i j : Int) : Bool := (decide (-(2 ^ 64) < i) && decide (i < 2 ^ 64)) || (decide (-(2 ^ 64) < j) && decide (j < 2 ^ 64))
def opF (o : Operator) (x y : D) : Option (Kd × D) := match o, x, y with
  | .Add, .int i, .int j => some (.frz, .int (i + j))
  | .Add, .str a, .str b => if a.length + b.length ≤ sizeLine then some (.frz, .str (a ++ b)) else none
  | .Add, .list xs, .list ys => if xs.length + ys.length ≤ sizeLine then some (.own, .list (xs ++ ys)) else none
  | .Add, .tuple xs, .tuple ys => if xs.length + ys.length ≤ sizeLine then some (.frz, .tuple (xs ++ ys)) else none
  | .Sub, .int i, .int j => some (.frz, .int (i - j))
  | .Mult, .int i, .int j => if cmulB i j then some (.frz, .int (i * j)) else none
  | .Mult, .list xs, .int k => if -(2 ^ 63) ≤ k ∧ k < 2 ^ 63 ∧ xs.length * k.toNat ≤ sizeLine then some (.own, .list (List.replicate k.toNat xs).flatten) else none
  | .Mult, .tuple xs, .int k => if 2 ≤ k ∧ k ≤ 1000 ∧ xs.length ≤ 1000 ∧ xs.isEmpty = false then some (.frz, .tuple (List.replicate k.toNat xs).flatten) else none
  | .Mult, .str x, .int k => if 2 ≤ k ∧ k ≤ 1000 ∧ x.length ≤ 1000 ∧ 0 < x.length then some (.frz, .str (Txt.mul x k)) else none
  | .FloorDiv, .int i, .int j => if 0 < j ∧ j < 1073741824 then some (.frz, .int (i / j)) else none
  | .Mod, .int i, .int j => if 0 < j then some (.frz, .int (i % j)) else none
  | .Pow, .int i, .int j => if 0 ≤ j ∧ j ≤ 1000000 ∧ i.natAbs < 2 ^ 64 then some (.frz, .int (i ^ j.toNat)) else none
  | _, _, _ => none

/-- in place, of numbers and texts -/
def opI (o : Operator) (x y : D) : Option D := match o, x, y with
  | .Add, .int i, .int j => some (.int (i + j))
  | .Add, .str a, .str b => if a.length + b.length ≤ sizeLine then some (.str (a ++ b)) else none
  | .Sub, .int i, .int j => some (.int (i - j))
  | .Mult, .int i, .int j => if cmulB i j then some (.int (i * j)) else none
  | .FloorDiv, .int i, .int j => if 0 < j ∧ j < 1073741824 then some (.int (i / j)) else none
  | .Mod, .int i, .int j => if 0 < j then some (.int (i % j)) else none
  | _, _, _ => none
def eqF (x y : D) : Option Bool := if Nat.min x.depth y.depth ≤ 64 then some (PyData.eqv x y) else none
def inF (x y : D) : Option Bool := match y with
  | .list ds => if Nat.min (PyData.depthAll ds) x.depth ≤ 64 then some (ds.any fun z => PyData.eqv z x) else none
  | .tuple ds => if Nat.min (PyData.depthAll ds) x.depth ≤ 64 then some (ds.any fun z => PyData.eqv z x) else none
  | .str z => (match x with
    | .str a => some (!(Builtin.Str.occurrences z a 0 z.length 1).isEmpty)
    | _ => none)
  | _ => none
def isNoneD : D → Bool
  | .none => true
  | _ => false
def i2F (p : Int → Int → Bool) (x y : D) : Option Bool := match x, y with
  | .int i, .int j => some (p i j)
  | _, _ => none
def isF (x y : D) : Option Bool := match y with
  | .none => some (isNoneD x)
  | _ => none
def cmpF (o : CmpOp) (x y : D) : Option Bool := match o with
  | .Eq => eqF x y
  | .NotEq => (eqF x y).map (!·)
  | .Lt => i2F (fun i j => decide (i < j)) x y
  | .LtE => i2F (fun i j => decide (i ≤ j)) x y
  | .Gt => i2F (fun i j => decide (j < i)) x y
  | .GtE => i2F (fun i j => decide (j ≤ i)) x y
  | .In => inF x y
  | .NotIn => (inF x y).map (!·)
  | .Is => isF x y
  | .IsNot => (isF x y).map (!·)

def truth : D → Bool
  | .none => false
  | .bool b => b
  | .int i => i != 0
  | .str x => (x.length : Int) != 0
  | .list xs => !xs.isEmpty
  | .tuple xs => !xs.isEmpty
  | .dict kvs => !kvs.isEmpty

def subF (x i : D) : Option D := match x, i with
  | .list xs, .int k => atI xs k
  | .tuple xs, .int k => atI xs k
  | .str z, .int k => (atI z.cps.toList k).map fun c => .str ⟨#[c]⟩
  | _, _ => none
def cutD (xs : List D) (lo hi : Option Int) : List D := (xs.drop (HT.sIx xs.length 0 lo)).take (HT.sIx xs.length xs.length hi - HT.sIx xs.length 0 lo)
def slF (x : D) (lo hi : Option Int) : Option (Kd × D) := match x with
  | .list xs => some (.own, .list (cutD xs lo hi))
  | .tuple xs => some (.frz, .tuple (cutD xs lo hi))
  | .str z => some (.frz, .str (cutS z lo hi))
  | _ => none
def revF (x : D) : Option (Kd × D) := match x with
  | .list xs => some (.own, .list xs.reverse)
  | _ => none

/-! ### built-ins -/
def intsOf : List D → Option (List Int)
  | [] => some []
  | .int i :: r => (intsOf r).map (i :: ·)
  | _ :: _ => none
def boolsOf : List D → Option (List Bool)
  | [] => some []
  | .bool b :: r => (boolsOf r).map (b :: ·)
  | _ :: _ => none
def strsOf : List D → Option (List Str)
  | [] => some []
  | .str b :: r => (strsOf r).map (b :: ·)
  | _ :: _ => none
def itemsOf : D → Option (List D)
  | .list xs => some xs
  | .tuple xs => some xs
  | _ => none
def maxL : Int → List Int → Int
  | m, [] => m
  | m, x :: r => maxL (if x > m then x else m) r
def minL : Int → List Int → Int
  | m, [] => m
  | m, x :: r => minL (if x < m then x else m) r
def biF (b : BI) (xs : List D) : Option (Kd × D) := match b, xs with
  | .len, [.list ys] => some (.frz, .int ys.length)
  | .len, [.tuple ys] => some (.frz, .int ys.length)
  | .len, [.str z] => some (.frz, .int z.length)
  | .abs, [.int i] => some (.frz, .int (if i < 0 then -i else i))
  | .max, [.int i, .int j] => some (.frz, .int (if j > i then j else i))
  | .min, [.int i, .int j] => some (.frz, .int (if j < i then j else i))
  | .max, [.list ys] => (match intsOf ys with
    | some (m :: r) => some (.frz, .int (maxL m r))
    | _ => none)
  | .min, [.list ys] => (match intsOf ys with
    | some (m :: r) => some (.frz, .int (minL m r))
    | _ => none)
  | .int, [.int i] => some (.frz, .int i)
  | .int, [.bool k] => some (.frz, .int (if k then 1 else 0))
  | .sum, [.list ys] => (intsOf ys).map fun ns => (.frz, .int ns.sum)
  | .all, [.list ys] => (boolsOf ys).map fun bs => (.frz, .bool (bs.all id))
  | .any, [.list ys] => (boolsOf ys).map fun bs => (.frz, .bool (bs.any id))
  | .list, [y] => (itemsOf y).map fun zs => (.own, .list zs)
  | .tuple, [y] => (itemsOf y).map fun zs => (.frz, .tuple zs)
  | .repr, [y] => if y.showable = true ∧ y.depth ≤ 64 ∧ y.hasDict = false ∧ y.shown.length ≤ sizeLine then some (.frz, .str y.shown) else none
  | .str, [.int i] => if i.natAbs.log2 < 1920 then some (.frz, .str (toString i)) else none
  | _, _ => none
def isiF (t : String) (x : D) : Bool := match x with
  | .none => false
  | .bool _ => t == "bool" || t == "int"
  | .int _ => t == "int"
  | .str _ => t == "str"
  | .list _ => t == "list"
  | .tuple _ => t == "tuple"
  | .dict _ => t == "dict"
def isStrD : D → Bool
  | .str _ => true
  | _ => false
def meF (m : MI) (o : D) (xs : List D) : Option (Kd × D) := match m, o, xs with
  | .join, .str sep, [y] => (match (itemsOf y).bind strsOf with
    | some ss => if (ss.map (·.length)).sum + ss.length * sep.length ≤ 16777216 then some (.frz, .str (Txt.join sep ss)) else none
    | none => none)
  | .split, .str a, [.str b] => if 0 < b.length ∧ a.length + 2 ≤ sizeLine ∧ (Txt.split a b).all (fun z => decide (z.length ≤ sizeLine) && PyData.strOk z) = true ∧ (Txt.split a b).length ≤ sizeLine then some (.own, .list ((Txt.split a b).map .str)) else none
  | _, _, _ => none

/-! ### stores -/
def putE (env : Env) (i : Nat) (s : Slot) : Option Env := if i < env.length then some (env.set i s) else none
/-- a target takes a value; a new list is the slot's own where the target says so -/
def bindT : T → Kd × D → Env → Option Env
  | .v i, (k, d), env => if k = .peek then none else putE env i (.d false d)
  | .ov i, (k, d), env => if k = .peek then none else putE env i (.d (decide (k = .own)) d)
  | .tup ts, (_, .tuple xs), env => bindT ts (.frz, .tuple xs) env
  | .nil, (_, .tuple []), env => some env
  | .cons t r, (_, .tuple (x :: xs)), env => (bindT t (.frz, x) env).bind fun env' => bindT r (.frz, .tuple xs) env'
  | _, _, _ => none
def bindP : T → List (Kd × D) → Env → Option Env
  | .nil, [], env => some env
  | .cons t r, x :: xs, env => (bindT t x env).bind fun env' => bindP r xs env'
  | _, _, _ => none
def fzE (env : Env) : List Nat → Env
  | [] => env
  | i :: is => (match (fzE env is)[i]? with
    | some (.d _ x) => (fzE env is).set i (.d false x)
    | _ => fzE env is)
def klE (env : Env) : List Nat → Env
  | [] => env
  | i :: is => (klE env is).set i .e
/-- the owned list in a slot -/
def ownL (env : Env) (i : Nat) : Option (List D) := match env[i]? with
  | some (.d true (.list xs)) => some xs
  | _ => none

/-- all of them plain -/
def scalOf : List D → Option (List D)
  | [] => some []
  | .none :: r => (scalOf r).map (.none :: ·)
  | .bool b :: r => (scalOf r).map (.bool b :: ·)
  | .int i :: r => (scalOf r).map (.int i :: ·)
  | .str x :: r => (scalOf r).map (.str x :: ·)
  | _ => none
def noPeek : List (Kd × D) → Option (List D)
  | [] => some []
  | (k, d) :: r => if k = .peek then none else (noPeek r).map (d :: ·)
def intPart (x : D) : Option (Option Int) := match x with
  | .int i => some (some i)
  | _ => none

/-! ### walks -/
def forL (f : D → Env → Src → R Fl) : List D → Env → Src → R Fl
  | [], env, s => .ok (.next env) s
  | x :: xs, env, s => (f x env s).bind fun fl s1 => match fl with
    | .next env' => forL f xs env' s1
    | .cnt env' => forL f xs env' s1
    | .brk env' => .ok (.next env') s1
    | .ret o d => .ok (.ret o d) s1
def compL (f : D → Src → R (Option D)) : List D → Src → R (List D)
  | [], s => .ok [] s
  | x :: xs, s => (f x s).bind fun o s1 => (compL f xs s1).bind fun r s2 => match o with
    | some y => .ok (y :: r) s2
    | none => .ok r s2
/-- within a comprehension nothing is raised -/
def R.calm {α : Type} (r : R α) : R α := match r with
  | .ok a s => .ok a s
  | _ => .stuck
def whN (c : Env → Src → R D) (b : Env → Src → R Fl) (z : List Nat) : Nat → Env → Src → Option (R Fl)
  | 0, _, _ => none
  | n + 1, env, s => match c (fzE env z) s with
    | .ok d s1 => if truth d then (match b (fzE env z) s1 with
        | .ok (.next env') s2 => whN c b z n env' s2
        | .ok (.cnt env') s2 => whN c b z n env' s2
        | .ok (.brk env') s2 => some (.ok (.next env') s2)
        | .ok (.ret o d) s2 => some (.ok (.ret o d) s2)
        | .exc k a s2 => some (.exc k a s2)
        | .stuck => some .stuck)
      else some (.ok (.next (fzE env z)) s1)
    | .exc k a s1 => some (.exc k a s1)
    | .stuck => some .stuck
open Classical in
noncomputable def whR (c : Env → Src → R D) (b : Env → Src → R Fl) (z : List Nat) (env : Env) (s : Src) : R Fl :=
  if h : ∃ r n, whN c b z n env s = some r then h.choose else .stuck

def rngD (lo : Int) (n : Nat) : List D := (List.range n).map fun i => .int (lo + (i : Nat))
def rngCD (lo c : Int) (n : Nat) : List D := (List.range n).map fun i => .int (lo + (i : Nat) * c)
def enuD : Nat → List D → List D
  | _, [] => []
  | i, x :: r => .tuple [.int (i : Nat), x] :: enuD (i + 1) r
def zipD : List D → List D → List D
  | x :: xs, y :: ys => .tuple [x, y] :: zipD xs ys
  | _, _ => []
def signsD (z : Str) : List D := z.cps.toList.map fun c => .str ⟨#[c]⟩
def okR (i : Int) : Bool := decide (-(2 ^ 62) ≤ i) && decide (i < 2 ^ 62)
def rngF (xs : List D) : Option (List D) := match xs with
  | [.int j] => if okR j then some (rngD 0 j.toNat) else none
  | [.int i, .int j] => if okR i && okR j then some (rngD i (j - i).toNat) else none
  | _ => none
def rvrF (xs : List D) : Option (List D) := match xs with
  | [.int j] => if okR j then some (rngCD (((j.toNat : Nat) : Int) - 1) (-1) j.toNat) else none
  | [.int i, .int j] => if okR i && okR j then some (rngCD (i + (((j - i).toNat : Nat) : Int) - 1) (-1) (j - i).toNat) else none
  | _ => none
def itF (x : D) : Option (List D) := match x with
  | .list xs => some xs
  | .tuple xs => some xs
  | .str z => some (signsD z)
  | _ => none

/-- what enumerate serves -/
def enF (x : D) : Option (List D) := match x with
  | .list xs => some (enuD 0 xs)
  | .str z => some (enuD 0 (signsD z))
  | _ => none

section
variable (Φ : Nat → List Arg → Src → R (Bool × D)) (G : Nat → Option D)
mutual
noncomputable def evE : T → Env → Src → R (Kd × D)
  | .c d, _, s => .ok (.frz, d) s
  | .v i, env, s => (match env[i]? with
    | some (.d false x) => .ok (.frz, x) s
    | some (.d true x) => .ok (.peek, x) s
    | _ => .stuck)
  | .g i, _, s => R.of ((G i).map fun d => (.frz, d)) s
  | .op o a b, env, s => (evE a env s).bind fun x s => (evE b env s).bind fun y s => R.of (opF o x.2 y.2) s
  | .cmp o a b, env, s => (evE a env s).bind fun x s => (evE b env s).bind fun y s => R.of ((cmpF o x.2 y.2).map fun b => (.frz, .bool b)) s
  | .cmp2 o o' a b c, env, s => (evE a env s).bind fun x s => (evE b env s).bind fun y s => (R.of (cmpF o x.2 y.2) s).bind fun k s =>
      if k then (evE c env s).bind fun z s => R.of ((cmpF o' y.2 z.2).map fun b => (.frz, .bool b)) s else .ok (.frz, .bool false) s
  | .and a b, env, s => (evE a env s).bind fun x s => if truth x.2 then evE b env s else .ok x s
  | .or a b, env, s => (evE a env s).bind fun x s => if truth x.2 then .ok x s else evE b env s
  | .not a, env, s => (evE a env s).bind fun x s => .ok (.frz, .bool (!truth x.2)) s
  | .neg a, env, s => (evE a env s).bind fun x s => (match x.2 with
    | .int i => .ok (.frz, .int (-i)) s
    | _ => .stuck)
  | .ife c a b, env, s => (evE c env s).bind fun x s => if truth x.2 then evE a env s else evE b env s
  | .tup es, env, s => (evA es env s).bind fun xs s => R.of ((noPeek xs).bind fun ds => if ds.length ≤ sizeLine then some (.frz, .tuple ds) else none) s
  | .lst es, env, s => (evA es env s).bind fun xs s => R.of ((noPeek xs).bind fun ds => if ds.length ≤ sizeLine then some (.own, .list ds) else none) s
  | .dnew, _, s => .ok (.own, .dict []) s
  | .sub a i, env, s => (evE a env s).bind fun x s => (evE i env s).bind fun y s => R.of ((subF x.2 y.2).map fun d => (.frz, d)) s
  | .sl a lo hi, env, s => (evE a env s).bind fun x s => (evO lo env s).bind fun l s => (evO hi env s).bind fun h s => R.of (slF x.2 l h) s
  | .rev a, env, s => (evE a env s).bind fun x s => R.of (revF x.2) s
  | .call f es, env, s => (evG es env s).bind fun xs s => (Φ f xs s).bind fun r s => .ok (if r.1 then .own else .frz, r.2) s
  | .bi b es, env, s => (evA es env s).bind fun xs s => R.of (biF b (xs.map (·.2))) s
  | .isi t a, env, s => (evE a env s).bind fun x s => .ok (.frz, .bool (isiF t x.2)) s
  | .me m o es, env, s => (evE o env s).bind fun x s => if isStrD x.2 then (evA es env s).bind fun xs s => R.of (meF m x.2 (xs.map (·.2))) s else .stuck
  | .lc tg it cond elt ws, env, s => (evI it env s).bind fun xs s => if xs.2.length ≤ sizeLine then
      (compL (fun x s => (R.of (bindT tg (.frz, x) (klE env ws)) s).bind fun env' s =>
        (evE cond env' s).calm.bind fun b s => if truth b.2 then (evE elt env' s).calm.bind fun y s => (if y.1 = .peek then .stuck else .ok (some y.2) s) else .ok none s) xs.2 s).bind fun ys s =>
      .ok (.own, .list ys) s else .stuck
  | .told f c okS badS es, env, s => (evG es env s).calm.bind fun xs s => (match Φ f xs s with
    | .ok r s' => .ok (.frz, .tuple [.str okS, r.2]) s'
    | .exc c' [a] s' => if c' = c then .ok (.frz, .tuple [.str badS, a]) s' else .stuck
    | _ => .stuck)
  | .srcG k i, env, s => (match env[i]? with
    | some .src => .ok (.frz, .int (s.get k)) s
    | _ => .stuck)
  | .srcL i, env, s => (match env[i]? with
    | some .src => .ok (.frz, .int (s.cells.length : Nat)) s
    | _ => .stuck)
  | _, _, _ => .stuck
noncomputable def evA : T → Env → Src → R (List (Kd × D))
  | .nil, _, s => .ok [] s
  | .cons a r, env, s => (evE a env s).bind fun x s => (evA r env s).bind fun xs s => .ok (x :: xs) s
  | _, _, _ => .stuck
/-- arguments for an own def -/
noncomputable def evG : T → Env → Src → R (List Arg)
  | .nil, _, s => .ok [] s
  | .cons a r, env, s => (evE a env s).bind fun x s => if x.1 = .peek then .stuck else (evG r env s).bind fun xs s => .ok (.d x.2 :: xs) s
  | .csrc i r, env, s => (match env[i]? with
    | some .src => (evG r env s).bind fun xs s => .ok (.src :: xs) s
    | _ => .stuck)
  | _, _, _ => .stuck
noncomputable def evO : T → Env → Src → R (Option Int)
  | .nil, _, s => .ok none s
  | .cons a _, env, s => (evE a env s).bind fun x s => R.of (intPart x.2) s
  | _, _, _ => .stuck
noncomputable def evI : T → Env → Src → R (Bool × List D)
  | .it a, env, s => (evE a env s).bind fun x s => R.of ((itF x.2).map fun xs => (decide (x.1 = .peek), xs)) s
  | .rng es, env, s => (evA es env s).bind fun xs s => R.of ((rngF (xs.map (·.2))).map fun xs => (false, xs)) s
  | .rvr es, env, s => (evA es env s).bind fun xs s => R.of ((rvrF (xs.map (·.2))).map fun xs => (false, xs)) s
  | .enu a, env, s => (evE a env s).bind fun x s => R.of ((enF x.2).map fun xs => (decide (x.1 = .peek), xs)) s
  | .rvd a, env, s => (evE a env s).bind fun x s => R.of ((itemsOf x.2).map fun xs => (decide (x.1 = .peek), xs.reverse)) s
  | .zip st a b, env, s => (evE a env s).bind fun x s => (evE b env s).bind fun y s => (match itemsOf x.2, itemsOf y.2 with
    | some xs, some ys => if st && xs.length != ys.length then .stuck else .ok (decide (x.1 = .peek) || decide (y.1 = .peek), zipD xs ys) s
    | _, _ => .stuck)
  | _, _, _ => .stuck
end
noncomputable def evS : T → Env → Src → R Fl
  | .nil, env, s => .ok (.next env) s
  | .seq a r, env, s => (evS a env s).bind fun fl s1 => (match fl with
    | .next env' => evS r env' s1
    | fl => .ok fl s1)
  | .fz is r, env, s => evS r (fzE env is) s
  | .kl is r, env, s => evS r (klE env is) s
  | .pass, env, s => .ok (.next env) s
  | .asg tg e, env, s => (evE Φ G e env s).bind fun x s => R.of ((bindT tg x env).map .next) s
  | .par tgs es, env, s => (evA Φ G es env s).bind fun xs s => R.of ((bindP tgs xs env).map .next) s
  | .setx i ix e, env, s => (match ownL env i with
    | some xs => (evE Φ G e env s).bind fun x s => (evE Φ G ix env s).bind fun y s => if x.1 = .peek then .stuck else
      (match y.2 with
      | .int k => (match ixN xs.length k with
        | some j => .ok (.next (env.set i (.d true (.list (xs.set j x.2))))) s
        | none => .stuck)
      | _ => .stuck)
    | none => .stuck)
  | .aug i o e, env, s => (match env[i]? with
    | some (.d false x) => (evE Φ G e env s).bind fun y s => (match opI o x y.2 with
      | some z => .ok (.next (env.set i (.d false z))) s
      | none => .stuck)
    | _ => .stuck)
  | .augx i ix o e, env, s => (match ownL env i with
    | some xs => (evE Φ G ix env s).bind fun y s => (match y.2 with
      | .int k => if k < 0 then .stuck else (match xs[k.toNat]? with
        | some x => (evE Φ G e env s).bind fun z s => (match opI o x z.2 with
          | some w => .ok (.next (env.set i (.d true (.list (xs.set k.toNat w))))) s
          | none => .stuck)
        | none => .stuck)
      | _ => .stuck)
    | none => .stuck)
  | .app i e, env, s => (match ownL env i with
    | some xs => (evE Φ G e env s).bind fun x s => if x.1 = .peek then .stuck else
      (if xs.length < sizeLine then .ok (.next (env.set i (.d true (.list (xs ++ [x.2]))))) s else .stuck)
    | none => .stuck)
  | .ext i e, env, s => (match ownL env i with
    | some xs => (evE Φ G e env s).bind fun x s => (match x.2 with
      | .list ys => if xs.length + ys.length ≤ sizeLine then .ok (.next (env.set i (.d true (.list (xs ++ ys))))) s else .stuck
      | _ => .stuck)
    | none => .stuck)
  | .popS i, env, s => (match ownL env i with
      | some xs => if xs.length = 0 then .stuck else .ok (.next (env.set i (.d true (.list xs.dropLast)))) s
      | none => .stuck)
  | .ex e, env, s => (evE Φ G e env s).bind fun _ s => .ok (.next env) s
  | .ifs c a b, env, s => (evE Φ G c env s).bind fun x s => if truth x.2 then evS a env s else evS b env s
  | .wh z c b, env, s => whR (fun env s => (evE Φ G c env s).bind fun x s => .ok x.2 s) (fun env s => evS b env s) z env s
  | .for tg it b, env, s => (evI Φ G it env s).bind fun xs s => if xs.1 then .stuck else
      forL (fun x env s => (R.of (bindT tg (.frz, x) env) s).bind fun env' s => evS b env' s) xs.2 env s
  | .ret e, env, s => (evE Φ G e env s).bind fun x s => if x.1 = .peek then .stuck else .ok (.ret (decide (x.1 = .own)) x.2) s
  | .retv i, env, s => (match env[i]? with
    | some (.d o x) => .ok (.ret o x) s
    | _ => .stuck)
  | .retn, _, s => .ok (.ret false .none) s
  | .brk, env, s => .ok (.brk env) s
  | .cnt, env, s => .ok (.cnt env) s
  | .raise c ar es, env, s => (evA Φ G es env s).bind fun xs s => if xs.length = ar then (match scalOf (xs.map (·.2)) with
    | some ds => .exc c ds.reverse s
    | none => .stuck) else .stuck
  | .srcS k i e, env, s => (evE Φ G e env s).bind fun x s => (match env[i]?, x.2 with
    | some .src, .int n => .ok (.next env) (s.put k n)
    | _, _ => .stuck)
  | .srcP i, env, s => (match env[i]?, s.cells.getLast? with
    | some .src, some n => .ok (.next env) { s with cells := s.cells.dropLast, left := n }
    | _, _ => .stuck)
  | _, _, _ => .stuck
end

/-! ### defs and programs -/
inductive Fn where
  /-- parameters, slots, body -/
  | body (ar n : Nat) (b : T)
  /-- a def whose worth is told by hand -/
  | prim (f : List Arg → Src → R (Bool × D))
def Arg.slot : Arg → Slot
  | .d x => .d false x
  | .src => .src
def startE (n : Nat) (xs : List Arg) : Env := xs.map Arg.slot ++ List.replicate (n - xs.length) .e
def endF (r : R Fl) : R (Bool × D) := r.bind fun fl s => match fl with
  | .ret o d => .ok (o, d) s
  | .next _ => .ok (false, .none) s
  | _ => .stuck
noncomputable def Fn.run (Φ : Nat → List Arg → Src → R (Bool × D)) (G : Nat → Option D) (xs : List Arg) (s : Src) : Fn → R (Bool × D)
  | .body ar n b => if xs.length = ar then endF (evS Φ G b (startE n xs) s) else .stuck
  | .prim f => f xs s
/-- calls to the depth k -/
noncomputable def Phi (P : List Fn) (G : Nat → Option D) : Nat → Nat → List Arg → Src → R (Bool × D)
  | 0, _, _, _ => .stuck
  | k + 1, f, xs, s => (match P[f]? with
    | some fn => fn.run (Phi P G k) G xs s
    | none => .stuck)
end Tre
/-! Tre2: how trees stand in the abstract heap. -/
namespace Tre
open PySem PySem.Spec PyProof.Rows L2

mutual
inductive Rp (K : PySem.W.Frag) (H : Hp) : V → D → Prop
  | non : Rp K H .non .none
  | bl (b : Bool) : Rp K H (.bl b) (.bool b)
  | int (i : Int) : Rp K H (.int i) (.int i)
  | str (x : Str) (h1 : x.length ≤ sizeLine) (h2 : PyData.strOk x = true) : Rp K H (.str x) (.str x)
  | lst {a : Addr} {xs : List V} {ds : List D} : H a = some (.lst xs) → RpA K H xs ds → Rp K H (.ref a) (.list ds)
  | tup {a : Addr} {xs : List V} {ds : List D} : SqT K H a xs → RpA K H xs ds → Rp K H (.ref a) (.tuple ds)
inductive RpA (K : PySem.W.Frag) (H : Hp) : List V → List D → Prop
  | nil : RpA K H [] []
  | cons {v : V} {vs : List V} {d : D} {ds : List D} : Rp K H v d → RpA K H vs ds → RpA K H (v :: vs) (d :: ds)
end

theorem Same.sqT {K : PySem.W.Frag} {H H' : Hp} {a : Addr} {xs : List V} (e : Same H H') (h : SqT K H a xs) : SqT K H' a xs := by
  rcases h with (h | ⟨o, h⟩) | h
  · exact .inl (.inl (e _ _ h))
  · exact .inl (.inr ⟨o, e _ _ h⟩)
  · exact .inr h

section
variable {K : PySem.W.Frag} {H H' : Hp}
mutual
theorem Rp.mono (e : Same H H') : ∀ {d : D} {v : V}, Rp K H v d → Rp K H' v d
  | .none, _, h => by cases h; exact .non
  | .bool b, _, h => by cases h; exact .bl b
  | .int i, _, h => by cases h; exact .int i
  | .str x, _, h => by cases h with | str _ h1 h2 => exact .str x h1 h2
  | .list ds, _, h => by cases h with | lst h1 h2 => exact .lst (e _ _ h1) (RpA.mono e h2)
  | .tuple ds, _, h => by cases h with | tup h1 h2 => exact .tup (Same.sqT e h1) (RpA.mono e h2)
  | .dict _, _, h => by cases h
theorem RpA.mono (e : Same H H') : ∀ {ds : List D} {vs : List V}, RpA K H vs ds → RpA K H' vs ds
  | [], _, h => by cases h; exact .nil
  | d :: ds, _, h => by cases h with | cons h1 h2 => exact .cons (Rp.mono e h1) (RpA.mono e h2)
end
mutual
theorem Rp.dp : ∀ {d : D} {v : V}, Rp K H v d → Dp K H v d
  | .none, _, h => by cases h; exact .non
  | .bool b, _, h => by cases h; exact .bl b
  | .int i, _, h => by cases h; exact .int i
  | .str x, _, h => by cases h with | str _ h1 h2 => exact .str x
  | .list ds, _, h => by cases h with | lst h1 h2 => exact .lst (.of h1) (RpA.dp h2)
  | .tuple ds, _, h => by cases h with | tup h1 h2 => exact .tup h1 (RpA.dp h2)
  | .dict _, _, h => by cases h
theorem RpA.dp : ∀ {ds : List D} {vs : List V}, RpA K H vs ds → DpAll K H vs ds
  | [], _, h => by cases h; exact .nil
  | d :: ds, _, h => by cases h with | cons h1 h2 => exact .cons (Rp.dp h1) (RpA.dp h2)
end
mutual
theorem Rp.lay : ∀ {d : D} {v : V}, Rp K H v d → d.canLay0 = true
  | .none, _, _ => by simp only [PyData.canLay0]
  | .bool b, _, _ => by simp only [PyData.canLay0]
  | .int i, _, _ => by simp only [PyData.canLay0]
  | .str x, _, h => by cases h with | str _ h1 h2 => simpa only [PyData.canLay0] using h2
  | .list ds, _, h => by cases h with | lst h1 h2 => simpa only [PyData.canLay0] using RpA.lay h2
  | .tuple ds, _, h => by cases h with | tup h1 h2 => simpa only [PyData.canLay0] using RpA.lay h2
  | .dict _, _, h => by cases h
theorem RpA.lay : ∀ {ds : List D} {vs : List V}, RpA K H vs ds → PyData.canLayAll0 ds = true
  | [], _, h => by simp only [PyData.canLayAll0]
  | d :: ds, _, h => by cases h with | cons h1 h2 => simp only [PyData.canLayAll0, Rp.lay h1, RpA.lay h2, Bool.and_self]
end
theorem RpA.len : ∀ {ds : List D} {vs : List V}, RpA K H vs ds → vs.length = ds.length
  | [], _, h => by cases h; rfl
  | d :: ds, _, h => by cases h with | cons h1 h2 => simp [RpA.len h2]
theorem RpA.get : ∀ {ds : List D} {vs : List V} {i : Nat} {d : D}, RpA K H vs ds → ds[i]? = some d → ∃ v, vs[i]? = some v ∧ Rp K H v d
  | _, _, 0, _, h, e => by
    cases h with
    | nil => simp at e
    | cons h1 h2 => simp at e; subst e; exact ⟨_, rfl, h1⟩
  | _, _, i + 1, d, h, e => by
    cases h with
    | nil => simp at e
    | cons h1 h2 =>
      obtain ⟨v, e1, r⟩ := RpA.get (i := i) (d := d) h2 (by simpa using e)
      exact ⟨v, by simpa using e1, r⟩
theorem RpA.getV : ∀ {ds : List D} {vs : List V} {i : Nat} {v : V}, RpA K H vs ds → vs[i]? = some v → ∃ d, ds[i]? = some d ∧ Rp K H v d
  | _, _, 0, _, h, e => by
    cases h with
    | nil => simp at e
    | cons h1 h2 => simp at e; subst e; exact ⟨_, rfl, h1⟩
  | _, _, i + 1, v, h, e => by
    cases h with
    | nil => simp at e
    | cons h1 h2 =>
      obtain ⟨d, e1, r⟩ := RpA.getV (i := i) (v := v) h2 (by simpa using e)
      exact ⟨d, by simpa using e1, r⟩
theorem RpA.app : ∀ {ds es : List D} {vs ws : List V}, RpA K H vs ds → RpA K H ws es → RpA K H (vs ++ ws) (ds ++ es)
  | [], _, _, _, h, g => by cases h; exact g
  | d :: ds, _, _, _, h, g => by cases h with | cons h1 h2 => exact .cons h1 (RpA.app h2 g)
theorem RpA.one {d : D} {v : V} (h : Rp K H v d) : RpA K H [v] [d] := .cons h .nil
theorem RpA.take : ∀ (n : Nat) {ds : List D} {vs : List V}, RpA K H vs ds → RpA K H (vs.take n) (ds.take n)
  | 0, _, _, _ => by simp; exact .nil
  | n + 1, _, _, h => by
    cases h with
    | nil => simp; exact .nil
    | cons h1 h2 => exact .cons h1 (RpA.take n h2)
theorem RpA.drop : ∀ (n : Nat) {ds : List D} {vs : List V}, RpA K H vs ds → RpA K H (vs.drop n) (ds.drop n)
  | 0, _, _, h => by simpa using h
  | n + 1, _, _, h => by
    cases h with
    | nil => simp; exact .nil
    | cons h1 h2 => simpa using RpA.drop n h2
theorem RpA.set {d : D} {v : V} (r : Rp K H v d) : ∀ (i : Nat) {ds : List D} {vs : List V}, RpA K H vs ds → RpA K H (vs.set i v) (ds.set i d)
  | _, _, _, .nil => by simp; exact .nil
  | 0, _, _, .cons h1 h2 => .cons r h2
  | i + 1, _, _, .cons h1 h2 => .cons h1 (RpA.set r i h2)
theorem RpA.rev : ∀ {ds : List D} {vs : List V}, RpA K H vs ds → RpA K H vs.reverse ds.reverse
  | [], _, h => by cases h; exact .nil
  | d :: ds, _, h => by
    cases h with
    | cons h1 h2 =>
      rw [List.reverse_cons, List.reverse_cons]
      exact RpA.app (RpA.rev h2) (RpA.one h1)
theorem RpA.rep {ds : List D} {vs : List V} (h : RpA K H vs ds) : ∀ n : Nat, RpA K H (List.replicate n vs).flatten (List.replicate n ds).flatten
  | 0 => by simp; exact .nil
  | n + 1 => by
    rw [List.replicate_succ, List.replicate_succ, List.flatten_cons, List.flatten_cons]
    exact RpA.app h (RpA.rep h n)
theorem RpA.dropLast {ds : List D} {vs : List V} (h : RpA K H vs ds) : RpA K H vs.dropLast ds.dropLast := by
  rw [List.dropLast_eq_take, List.dropLast_eq_take, h.len]
  exact RpA.take _ h
theorem RpA.cut {ds : List D} {vs : List V} (h : RpA K H vs ds) (lo hi : Option Int) : RpA K H (cutV vs lo hi) (cutD ds lo hi) := by
  unfold cutV cutD
  rw [h.len]
  exact RpA.take _ (RpA.drop _ h)
end

/-! ### hidden addresses -/
open Classical in
noncomputable def hide (H : Hp) (O : Addr → Prop) : Hp := fun a => if O a then none else H a
theorem hide_out {H : Hp} {O : Addr → Prop} {a : Addr} (h : ¬ O a) : hide H O a = H a := by unfold hide; rw [if_neg h]
theorem hide_some {H : Hp} {O : Addr → Prop} {a : Addr} {o : HO} (h : hide H O a = some o) : ¬ O a ∧ H a = some o := by
  unfold hide at h
  split at h
  · cases h
  · exact ⟨by assumption, h⟩
theorem same_hide {H : Hp} {O : Addr → Prop} : Same (hide H O) H := fun _ _ e => (hide_some e).2
theorem hide_same {H H' : Hp} {O O' : Addr → Prop} (h : ∀ a o, ¬ O a → H a = some o → H' a = some o) (hO : ∀ a, O' a → ¬ O a → H a = none) : Same (hide H O) (hide H' O') := fun a o e => by
  obtain ⟨h1, h2⟩ := hide_some e
  rw [hide_out (fun z => by rw [hO a z h1] at h2; cases h2)]
  exact h a o h1 h2
theorem hide_upd {H : Hp} {O : Addr → Prop} {a : Addr} {o : HO} (h : O a) : hide (upd H a o) O = hide H O := by
  funext b
  unfold hide
  split
  · rfl
  · rw [upd_ne (fun z => by subst z; contradiction)]

/-! ### the drawn source -/
structure SA where
  a1 : Addr
  a2 : Addr
  ts : List (Addr × Str)
/-- what may change anywhere: the source, the tables of code objects -/
def SA.Out (S : SA) (b : Addr) : Prop := b = S.a1 ∨ b = S.a2 ∨ ∃ q, (b, q) ∈ S.ts
def SrcR (S : SA) (H : Hp) (s : Src) : Prop := S.a1 ≠ S.a2 ∧
  H S.a1 = some (.dK [(.inr "cells", .ref S.a2), (.inr "left", .int s.left), (.inr "mixed", .int s.mixed), (.inr "turn", .int s.turn)]) ∧
  H S.a2 = some (.lst (s.cells.map V.int)) ∧ LamX.Tabs S.ts H
/-- all but the source stands as it stood -/
def Ex (S : SA) (H H' : Hp) : Prop := ∀ b o, H b = some o → ¬ S.Out b → H' b = some o
theorem Ex.refl (S : SA) (H : Hp) : Ex S H H := fun _ _ e _ => e
theorem Ex.trans {S : SA} {H H1 H2 : Hp} (a : Ex S H H1) (b : Ex S H1 H2) : Ex S H H2 := fun c o e h1 => b c o (a c o e h1) h1
theorem Ex.of {S : SA} {H H' : Hp} (h : Same H H') : Ex S H H' := fun b o e _ => h b o e
theorem same_new {H : Hp} {p : Addr} {o : HO} (h : H p = none) : Same H (upd H p o) := fun b x e => by rw [upd_ne (ne_of_none e h)]; exact e
theorem Ex.new {S : SA} {H : Hp} {p : Addr} {o : HO} (h : H p = none) : Ex S H (upd H p o) := .of (same_new h)
theorem SrcR.same {S : SA} {H H' : Hp} {s : Src} (h : SrcR S H s) (e : Same H H') : SrcR S H' s := ⟨h.1, e _ _ h.2.1, e _ _ h.2.2.1, h.2.2.2.ext e⟩
theorem SrcR.there1 {S : SA} {H : Hp} {s : Src} (h : SrcR S H s) : H S.a1 ≠ none := by rw [h.2.1]; exact fun z => nomatch z
theorem SrcR.there2 {S : SA} {H : Hp} {s : Src} (h : SrcR S H s) : H S.a2 ≠ none := by rw [h.2.2.1]; exact fun z => nomatch z
theorem SrcR.there {S : SA} {H : Hp} {s : Src} (h : SrcR S H s) {a : Addr} (o : S.Out a) : H a ≠ none := by
  rcases o with rfl | rfl | ⟨q, hq⟩
  · exact h.there1
  · exact h.there2
  · obtain ⟨ps, e, _⟩ := h.2.2.2 _ hq
    have e : H a = _ := e
    rw [e]; exact fun z => nomatch z
theorem Ex.free {S : SA} {H H' : Hp} {s' : Src} (e : Ex S H H') (h : SrcR S H' s') {a : Addr} (n : H' a = none) : H a = none := by
  cases q : H a with
  | none => rfl
  | some o =>
    rw [e a o q fun z => h.there z n] at n
    cases n

/-! ### slots -/
def SlotOk (K : PySem.W.Frag) (S : SA) (O : Addr → Prop) (H0 H : Hp) (O0 : Addr → Prop) : Slot → Option V → Prop
  | .e, _ => True
  | .d false d, o => ∃ v, o = some v ∧ Rp K (hide H O) v d
  | .d true d, o => ∃ a vs ds, o = some (.ref a) ∧ d = .list ds ∧ H a = some (.lst vs) ∧ RpA K (hide H O) vs ds ∧ O a ∧ ¬ O0 a ∧ H0 a = none
  | .src, o => o = some (.ref S.a1)
structure Rl (K : PySem.W.Frag) (S : SA) (O0 : Addr → Prop) (H0 : Hp) (O : Addr → Prop) (env : Env) (σ : L2.St) (H : Hp) : Prop where
  len : env.length = σ.length
  so : ∀ b, S.Out b → O0 b
  sub : ∀ a, O0 a → O a
  dom : ∀ a, O a → H a ≠ none
  dom0 : ∀ a, O0 a → H0 a ≠ none
  same : Ex S H0 H
  slots : ∀ (i : Nat) (x : Slot) (o : Option V), env[i]? = some x → σ[i]? = some o → SlotOk K S O H0 H O0 x o
  inj : ∀ (i j : Nat) (d d' : D) (a : Addr), env[i]? = some (.d true d) → env[j]? = some (.d true d') → σ[i]? = some (some (.ref a)) → σ[j]? = some (some (.ref a)) → i = j
/-- a value -/
def VR (K : PySem.W.Frag) (S : SA) (O : Addr → Prop) (Ha H : Hp) : Kd → V → D → Prop
  | .frz, v, d => Rp K (hide H O) v d
  | .own, v, d => ∃ a vs ds, v = .ref a ∧ d = .list ds ∧ Ha a = none ∧ H a = some (.lst vs) ∧ RpA K (hide H fun b => O b ∨ b = a) vs ds
  | .peek, v, d => ∃ a vs ds, v = .ref a ∧ d = .list ds ∧ H a = some (.lst vs) ∧ RpA K (hide H O) vs ds ∧ ¬ S.Out a

section
variable {K : PySem.W.Frag} {S : SA} {O0 O : Addr → Prop} {H0 H H' Ha : Hp} {env : Env} {σ : L2.St} {s s' : Src}
theorem Rl.nO0 (r : Rl K S O0 H0 O env σ H) {b : Addr} (n : ¬ O0 b) : ¬ S.Out b := fun z => n (r.so b z)
theorem Rl.nO (r : Rl K S O0 H0 O env σ H) {b : Addr} (n : ¬ O b) : ¬ S.Out b := fun z => n (r.sub _ (r.so b z))
theorem Rl.hid (r : Rl K S O0 H0 O env σ H) (e : Ex S H H') : Same (hide H O) (hide H' O) :=
  hide_same (fun a o n q => e a o q (r.nO n)) (fun a h n => absurd h n)
/-- the heap has grown -/
theorem Rl.ext (r : Rl K S O0 H0 O env σ H) (e : Ex S H H') (q : SrcR S H' s') : Rl K S O0 H0 O env σ H' where
  len := r.len
  so := r.so
  sub := r.sub
  dom := fun a h => by
    cases p : H a with
    | none => exact absurd p (r.dom a h)
    | some o =>
      by_cases n1 : S.Out a
      · exact q.there n1
      · rw [e a o p n1]; exact fun z => nomatch z
  dom0 := r.dom0
  same := r.same.trans e
  slots := fun i x o h1 h2 => by
    have h := r.slots i x o h1 h2
    cases x with
    | e => trivial
    | src => exact h
    | d k d =>
      cases k with
      | false =>
        obtain ⟨v, rfl, p⟩ := h
        exact ⟨v, rfl, p.mono (r.hid e)⟩
      | true =>
        obtain ⟨a, vs, ds, rfl, rfl, p1, p2, p3, p4, p5⟩ := h
        exact ⟨a, vs, ds, rfl, rfl, e a _ p1 (r.nO0 p4), p2.mono (r.hid e), p3, p4, p5⟩
  inj := r.inj
theorem Rl.out (r : Rl K S O0 H0 O env σ H) {a : Addr} (h : H a = none) : ¬ O a := fun z => r.dom a z h
theorem Rl.nsrc (r : Rl K S O0 H0 O env σ H) {a : Addr} (h : H a = none) : ¬ S.Out a := r.nO (r.out h)
theorem hide_less {O' : Addr → Prop} (h : ∀ a, O' a → O a) : Same (hide H O) (hide H O') := hide_same (fun _ _ _ q => q) fun a p n => absurd (h a p) n
theorem VR.rp {k : Kd} {v : V} {d : D} (h : VR K S O Ha H k v d) : Rp K H v d := by
  cases k with
  | frz => exact h.mono same_hide
  | own => obtain ⟨a, vs, ds, rfl, rfl, _, e, p⟩ := h; exact .lst e (p.mono same_hide)
  | peek => obtain ⟨a, vs, ds, rfl, rfl, e, p, _⟩ := h; exact .lst e (p.mono same_hide)
/-- a new list may be seen -/
theorem VR.frz {k : Kd} {v : V} {d : D} (h : VR K S O Ha H k v d) (hO : ∀ a, O a → Ha a ≠ none) (hk : k ≠ .peek) : Rp K (hide H O) v d := by
  cases k with
  | frz => exact h
  | own =>
    obtain ⟨a, vs, ds, rfl, rfl, n, e, p⟩ := h
    refine .lst ?_ (p.mono (hide_less fun b z => .inl z))
    rw [hide_out (fun z => hO a z n)]
    exact e
  | peek => exact absurd rfl hk
theorem VR.list {k : Kd} {v : V} {ds : List D} (h : VR K S O Ha H k v (.list ds)) : ∃ a vs, v = .ref a ∧ H a = some (.lst vs) ∧ RpA K (hide H O) vs ds := by
  cases k with
  | frz =>
    cases h with
    | lst h1 h2 => exact ⟨_, _, rfl, same_hide _ _ h1, h2⟩
  | own => obtain ⟨a, vs, ds', rfl, e0, n, e, p⟩ := h; cases e0; exact ⟨a, vs, rfl, e, p.mono (hide_less fun b z => .inl z)⟩
  | peek => obtain ⟨a, vs, ds', rfl, e0, e, p, _⟩ := h; cases e0; exact ⟨a, vs, rfl, e, p⟩
theorem VR.tuple {k : Kd} {v : V} {ds : List D} (h : VR K S O Ha H k v (.tuple ds)) : ∃ a vs, v = .ref a ∧ SqT K H a vs ∧ RpA K (hide H O) vs ds := by
  cases k with
  | frz =>
    cases h with
    | tup h1 h2 => exact ⟨_, _, rfl, Same.sqT same_hide h1, h2⟩
  | own => obtain ⟨a, vs, ds', rfl, e0, n, e, p⟩ := h; cases e0
  | peek => obtain ⟨a, vs, ds', rfl, e0, e, p, _⟩ := h; cases e0
theorem VR.tupleF {k : Kd} {v : V} {ds : List D} (h : VR K S O Ha H k v (.tuple ds)) : Rp K (hide H O) v (.tuple ds) := by
  cases k with
  | frz => exact h
  | own => obtain ⟨a, vs, ds', rfl, e0, n, e, p⟩ := h; cases e0
  | peek => obtain ⟨a, vs, ds', rfl, e0, e, p, _⟩ := h; cases e0
theorem VR.int {k : Kd} {v : V} {i : Int} (h : VR K S O Ha H k v (.int i)) : v = .int i := by have := h.rp; cases this; rfl
theorem VR.bool {k : Kd} {v : V} {b : Bool} (h : VR K S O Ha H k v (.bool b)) : v = .bl b := by have := h.rp; cases this; rfl
theorem VR.none {k : Kd} {v : V} (h : VR K S O Ha H k v .none) : v = .non := by have := h.rp; cases this; rfl
theorem VR.str {k : Kd} {v : V} {x : Str} (h : VR K S O Ha H k v (.str x)) : v = .str x ∧ x.length ≤ sizeLine ∧ PyData.strOk x = true := by
  have := h.rp
  cases this with
  | str _ h1 h2 => exact ⟨rfl, h1, h2⟩
theorem VR.ext {k : Kd} {v : V} {d : D} {H1 : Hp} (r : Rl K S O0 H0 O env σ H) (h : VR K S O H H1 k v d) (e0 : Ex S H H1) (q1 : SrcR S H1 s) (e : Ex S H1 H') (q : SrcR S H' s') : VR K S O H H' k v d := by
  have r1 := r.ext e0 q1
  cases k with
  | frz => exact Rp.mono (r1.hid e) h
  | own =>
    obtain ⟨a, vs, ds, rfl, rfl, n, x, p⟩ := h
    have n1 := r.nsrc n
    refine ⟨a, vs, ds, rfl, rfl, n, e a _ x n1, p.mono (hide_same (fun b o nb hb => ?_) fun b z nz => absurd z nz)⟩
    exact e b o hb (r.nO fun z => nb (.inl z))
  | peek =>
    obtain ⟨a, vs, ds, rfl, rfl, x, p, n1⟩ := h
    exact ⟨a, vs, ds, rfl, rfl, e a _ x n1, p.mono (r1.hid e), n1⟩
/-- what is new behind H1 is new behind H -/
theorem VR.back {k : Kd} {v : V} {d : D} {H1 : Hp} (h : VR K S O H1 H' k v d) (e0 : Ex S H H1) (q1 : SrcR S H1 s) : VR K S O H H' k v d := by
  cases k with
  | frz => exact h
  | own => obtain ⟨a, vs, ds, rfl, rfl, n, x, p⟩ := h; exact ⟨a, vs, ds, rfl, rfl, e0.free q1 n, x, p⟩
  | peek => exact h
end
end Tre
set_option maxHeartbeats 2000000
/-! TreG: a lambda without parameters handed to a def; no guard stands. -/
namespace Tre
open PySem PySem.Spec PyProof.Rows L2 LamX

/-- what the callee's body is told: a() answers as the lambda's body -/
abbrev Acts (X : Cx) (Ng : List Str) (x : Str) (sg : Scope) (g : Addr) (cdg : Value) (a : Str) (f c' : Addr) (s : Shared) (H : Hp) (q : Str) (tl : XK → Hp → VK → Prop) : Prop :=
  ∀ (W : WX) (pn : List (Addr × Obj)) (xe : Value → Shared → Prop) (E : XK) (p1 p2 : Pos), Takes ((cxOf (L2.CX X.prog X.w) X.prog X.w X.K X.mg X.base Ng x sg g cdg X.A X.stack s H fun _ _ _ => False).tr pn xe) W → (∀ cls d (σ' : L2.St) H', σ'.length = Ng.length → E cls d H' → W cls d σ' H') →
    PE ((cxOf (L2.CX X.prog X.w) X.prog X.w X.K X.mg X.base Ng x sg g cdg X.A X.stack s H fun _ _ _ => False).tr pn xe) (.Call (.Name a p1) [] [] p2) (fun σZ HZ Q => σZ[0]? = some (some (.ref f)) ∧ HZ c' = some (CodeO c' q) ∧ tl E HZ Q)

section
variable {X : Cx} {pins : List (Addr × Obj)} {σ : L2.St} {H HZ : Hp} {s s1 : Shared}
theorem actG {Ng : List Str} {qg : Str} {sg : Scope} {g f c' : Addr} {cdg pm ctv : Value} {params : Arguments} {body : Expr} {scope : Scope} {k : Nat} {a : Str} {t : XK → TE}
    (I : Inv X pins σ H s) (hA : X.A.guards = some []) (L : LamS X.env.scope scope) (hf : s.heap.get? f = some (PySem.W.kla_obj "<lambda>" (X.env.qual ++ "<lambda>") params body scope (cloFrom X.env.cells scope.names []) pm c' ctv)) (hfn : H f = none) (hfr : f ∉ frs X.stack)
    (hbind : bindArgs (PySem.W.kla_fn "<lambda>" (X.env.qual ++ "<lambda>") params body scope (cloFrom X.env.cells scope.names []) pm (.ref c') ctv) ⟨[], []⟩ = pure []) (hr : Room (k + 1) (X.A.deeper (envOfC qg sg s.heap.objs.size g cdg)))
    (hbody : ∀ (A : Around) (outer : List PySem.Env) (s : Shared) (H : Hp) (E : XK), A.guards = some [] → Room k (A.deeper (lamEnv X scope s.heap.objs.size f c')) → PE (lamCx X A outer s H E scope f c') body (t E))
    (hN : Ng[0]? = some a) (hv : Vis sg a) (hd : (a == ("__debug__" : Str)) = false) (hcd : (a == ("__classdict__" : Str)) = false) :
    Acts X Ng qg sg g cdg a f c' s H (X.env.qual ++ "<lambda>") (fun E H' Q' => t E σ H' Q') := by
  intro W pn xe E p1 p2 tk hW
  constructor
  intro pinsZ sZ σZ HZ Q IZ h
  obtain ⟨hs, hc, ht⟩ := h
  have var := (pe_var (pos := p1) (i := 0) hN hv hd hcd).run pinsZ sZ σZ HZ (fun v H1 => v = .ref f ∧ H1 = HZ) IZ ⟨.ref f, hs, rfl, rfl⟩
  refine wpAny_Call_Name_kw (thn var ?_)
  rintro u s1 ⟨v, H1, I1, r1, rfl, rfl⟩
  obtain rfl : u = Value.ref f := r1
  have of1 := I1.base.keep f _ hf hfn hfr (fun z => nomatch (show f ∈ ([] : List Addr) from z))
  refine PySem.W.callWith_F0 ⟨_, _, _, _, of1⟩ ?_
  have un : Un (frs X.stack) [] H H1 s.heap s1.heap := I1.base
  obtain ⟨⟨oc, vs, tc, hoc, hdc, hvc⟩, _, _⟩ := I1.hok c' _ hc
  have rc : codeAny (model X.prog X.w) (X.A.deeper (envOfC qg sg s.heap.objs.size g cdg)) (.call (.ref f) ⟨[], []⟩) (CR (L2.CX X.prog X.w) (envOfC qg sg s.heap.objs.size g cdg :: X.stack) X.prog X.w H1 s1 Q E) s1 := by
    refine PySem.W.kla_callFunE hr.depth of1 rfl L.co L.gen rfl ⟨c', oc, vs, tc, rfl, hoc, hdc, hvc⟩ ?_
    rw [hbind]
    refine wpAny_pure (wpAny_newFunctionEnv (fun y hy => (L.own y hy).2) (fun y hy => absurd hy (by simp)) (fun h₁ hns hsb => ⟨I1.nolimit.fresh _ hsb, ?_⟩) L.kind)
    have kp : ∀ b o, s1.heap.get? b = some o → h₁.get? b = some o := fun b o e => hsb.extBut b o (Nat.ne_of_lt (Heap.lt_size e)) (Heap.get?_push_of_some _ e)
    have J := lam_start2 (A := X.A.deeper (envOfC qg sg s.heap.objs.size g cdg)) (outer := envOfC qg sg s.heap.objs.size g cdg :: X.stack) (f := f) (c' := c') (E := E) (tk := s1.toks + ([] : List (Str × Value)).length) I L I1.env0 hr.hd un hns kp
    refine PySem.W.kla_codeExpr (env := lamEnv X scope s1.heap.objs.size f c') ?_
    refine wpAny_mono ((hbody (X.A.deeper (envOfC qg sg s.heap.objs.size g cdg)) _ s1 H1 E hA (hr.deeper _)).run [] _ _ H1 Q J ht) ?_ fun e s' hq => hq
    rintro v s' ⟨w', H', J', rv, q⟩
    exact ⟨w', H', J'.os, J'.bare, J'.base, J'.hok, rv, q⟩
  refine wpAny_call (codeAny_mono rc ?_)
  intro r s' hq
  cases r with
  | error e => exact tk e s' (XE.of_call I1 (fun cls d H' h => hW cls d σZ H' I1.len h) hq)
  | ok fl =>
    cases fl with
    | ret u => exact I1.after hq
    | next => exact False.elim hq
    | brk => exact False.elim hq
    | cont => exact False.elim hq
/-- the lambda is made: nothing but the table of the def's code changes -/
theorem lam_makeG {T : List (Addr × Str)} {c P : Addr} {params : Arguments} {body : Expr} {scope : Scope} {pos : Pos} {E : Value → Shared → Prop} {Q : Value → Shared → Prop} (I : Inv X pins σ H s) (TB : TabB X.base X.mg c P) (hcode : X.env.code = .ref c)
    (hm : (P, X.env.qual ++ "<lambda>") ∈ T) (hu : ∀ p ∈ T, p.1 = P → p.2 = X.env.qual ++ "<lambda>") (hT : Tabs T H) (hdef : defaultsOf params X.env = ([], [])) (hfree : ∀ y ∈ scope.names, y.2 = .free → ∃ c, X.env.cells.lookup y.1 = some c)
    (h : ∀ (f c' : Addr) (pm ctv : Value) (H1 : Hp) (s' : Shared), Inv X pins σ H1 s' → (∀ b o, H b = some o → b ≠ P → H1 b = some o) → Tabs T H1 →
      s'.heap.get? f = some (PySem.W.kla_obj "<lambda>" (X.env.qual ++ "<lambda>") params body scope (cloFrom X.env.cells scope.names []) pm c' ctv) → H1 f = none → f ∉ frs X.stack → H1 c' = some (CodeO c' (X.env.qual ++ "<lambda>")) → Q (.ref f) s') :
    wpAny (model X.prog X.w) X.A (eval (.Lambda params body scope pos) X.env) Q E s := by
  obtain ⟨ps, hP, ht, ha⟩ := hT _ hm
  refine PySem.W.kla_eval hdef ?_
  have bP : s.heap.BuiltinsAt X.mg P := TB.bm.keeps I.bk
  have hP' : s.heap.get? P = some { cls := .none, data := .fields ps } := I.hok P _ hP
  have nofr : ∀ f, s.heap.objs.size ≤ f → f ∉ frs X.stack := fun f hf z => by
    rcases List.mem_cons.mp (I.stkSub _ z) with e | e
    · exact absurd (Nat.lt_of_lt_of_le (e ▸ I.lt : f < s.heap.objs.size) hf) (Nat.lt_irrefl _)
    · exact I.nofs hf e
  cases hc : codeAmong pos ps.toList with
  | some cv =>
    obtain ⟨c', rfl, hco⟩ := ha pos cv hc
    refine PySem.W.kla_makeFunctionHit (mg := X.mg) (c := c) (P := P) (ps := ps) (closure_ok hfree) I.ok.glob (I.mod.glob.keeps I.bk) hcode (TB.code.keeps I.bk) hP' ht hc bP fun ctv h' tk hx hsz => ?_
    refine h h'.objs.size c' ((X.mg "__name__").getD .none) ctv H _ (I.kept (t' := tk) fun b o e => Heap.get?_push_of_some _ (hx b o e)) (fun _ _ e _ => e) hT (Heap.get?_push_size _ rfl) (I.hok.fresh hsz) (nofr _ hsz) hco
  | none =>
    refine PySem.W.kla_makeFunction (mg := X.mg) (c := c) (P := P) (ps := ps) (closure_ok hfree) I.ok.glob (I.mod.glob.keeps I.bk) hcode (TB.code.keeps I.bk) hP' ht hc TB.gP bP fun c' ctv h' tk hx hge hlt hrec htb => ?_
    obtain ⟨c2, oc, vs, t, e2, hoc, hd, hv⟩ := hrec
    cases e2
    have hsz : s.heap.objs.size ≤ h'.objs.size := Nat.le_trans hge (Nat.le_of_lt hlt)
    have nC : H c' = none := I.hok.fresh hge
    have I1 := inv_table (t' := tk) (more := #[rawInt pos.line, rawInt pos.col, .ref c']) (h' := h'.push (PySem.W.kla_obj "<lambda>" (X.env.qual ++ "<lambda>") params body scope (cloFrom X.env.cells scope.names []) ((X.mg "__name__").getD .none) c' ctv)) I hP
      (fun b o hb e => Heap.get?_push_of_some _ (hx b o hb e)) (Heap.get?_push_of_some _ htb) hge ⟨oc, vs, t, Heap.get?_push_of_some _ hoc, hd, hv⟩
    have hE : ∀ b o, H b = some o → b ≠ P → (upd (upd H P (.tbl (ps ++ #[rawInt pos.line, rawInt pos.col, .ref c']))) c' (CodeO c' (X.env.qual ++ "<lambda>"))) b = some o := fun b o e n => by
      rw [upd_ne (ne_of_none e nC), upd_ne n]; exact e
    have old : ∀ c0 q0, H c0 = some (CodeO c0 q0) → (upd (upd H P (.tbl (ps ++ #[rawInt pos.line, rawInt pos.col, .ref c']))) c' (CodeO c' (X.env.qual ++ "<lambda>"))) c0 = some (CodeO c0 q0) := fun c0 q0 e =>
      hE _ _ e fun z => by rw [z, hP] at e; exact codeO_ne ps (Option.some.inj e).symm
    refine h h'.objs.size c' ((X.mg "__name__").getD .none) ctv _ _ I1 hE (fun p hp => ?_) (Heap.get?_push_size _ rfl) ?_ (nofr _ hsz) upd_same
    · by_cases hb : p.1 = P
      · rw [hu p hp hb, hb]
        have eL : (ps ++ #[rawInt pos.line, rawInt pos.col, .ref c']).toList = ps.toList ++ [rawInt pos.line, rawInt pos.col, .ref c'] := by simp
        refine ⟨_, by rw [upd_ne (ne_of_none hP nC), upd_same], by rw [eL]; exact PySem.TriplesOk_snoc _ _ _ _ ht, fun p' cv hcv => ?_⟩
        rw [eL] at hcv
        rcases among_app _ ht hcv with z | rfl
        · obtain ⟨c0, e1, e2⟩ := ha p' cv z
          exact ⟨c0, e1, old _ _ e2⟩
        · exact ⟨c', rfl, upd_same⟩
      · obtain ⟨ps', a1, a2, a3⟩ := hT p hp
        refine ⟨ps', hE _ _ a1 hb, a2, fun p' cv hcv => ?_⟩
        obtain ⟨c0, e1, e2⟩ := a3 p' cv hcv
        exact ⟨c0, e1, old _ _ e2⟩
    · rw [upd_ne (Nat.ne_of_gt hlt), upd_ne (Nat.ne_of_gt (Nat.lt_of_lt_of_le (Heap.lt_size hP') hsz))]
      exact I.hok.fresh hsz
/-- the reading of such a call -/
def tLamG (P : Addr) (T : List (Addr × Str)) (TT : (XK → Hp → VK → Prop) → Hp → VK → Prop) (t : XK → TE) : TE := fun σ H Q => Tabs T H ∧ ∀ H1, (∀ b o, H b = some o → b ≠ P → H1 b = some o) → Tabs T H1 → TT (fun E H' Q' => t E σ H' Q') H1 Q
/-- the callee's promise: what it makes of a call of its parameter -/
def GivesG (X : Cx) (Ng : List Str) (x : Str) (sg : Scope) (g : Addr) (cdg : Value) (bg : List Stmt) (a : Str) (q : Str) (TT : (XK → Hp → VK → Prop) → Hp → VK → Prop) : Prop :=
  ∀ (f c' : Addr) (s : Shared) (H : Hp) (Q : VK) (tl : XK → Hp → VK → Prop), Acts X Ng x sg g cdg a f c' s H q tl → H c' = some (CodeO c' q) → TT tl H Q →
    ∃ t, PSs (cxOf (L2.CX X.prog X.w) X.prog X.w X.K X.mg X.base Ng x sg g cdg X.A X.stack s H fun _ _ _ => False) bg t ∧ t { nx := fun _ H' => Q .non H', rt := Q } (L2.start Ng [.ref f]) H
/-- x(lambda: body) -/
theorem pe_lamG {T : List (Addr × Str)} {TT : (XK → Hp → VK → Prop) → Hp → VK → Prop} {x a : Str} {g c P : Addr} {k : Nat} {pg : Arguments} {bg : List Stmt} {sg : Scope} {dV kV doc pm cdv ct oc : Value} {an od : Option Addr} {osl : Array (Option Value)} {Ng : List Str}
    {params : Arguments} {body : Expr} {scope : Scope} {t : XK → TE} {p lpos pos : Pos} {W : WX} (tkX : Takes X W) (hA : X.A.guards = some []) (hg : Gl X x) (hm : X.mg x = some (.ref g)) (hk : PySem.W.keepIn X.K (.ref g) = true)
    (lk : X.K.lookup g = some ⟨oc, od, .func (PySem.W.fnOf x x pg bg sg dV kV doc pm an cdv ct), osl⟩) (hcg : PySem.W.codeIn X.K cdv x = true) (hb : L2.Binds X.K (PySem.W.fnOf x x pg bg sg dV kV doc pm an cdv ct) [a] []) (Sg : FnScope Ng [a] sg) (hNg : Ng[0]? = some a) (hva : Vis sg a)
    (hG : GivesG X Ng x sg g cdv bg a (X.env.qual ++ "<lambda>") TT)
    (TB : TabB X.base X.mg c P) (hcode : X.env.code = .ref c) (hmT : (P, X.env.qual ++ "<lambda>") ∈ T) (hu : ∀ p ∈ T, p.1 = P → p.2 = X.env.qual ++ "<lambda>") (hr : Room (k + 2) X.A) (L : LamS X.env.scope scope) (hdef : defaultsOf params X.env = ([], []))
    (hbind : ∀ (q : Str) (cl : List (Str × Addr)) (pm cv ctv : Value), bindArgs (PySem.W.kla_fn "<lambda>" q params body scope cl pm cv ctv) ⟨[], []⟩ = pure [])
    (hbody : ∀ (A : Around) (outer : List PySem.Env) (s : Shared) (H : Hp) (E : XK) (f c' : Addr), A.guards = some [] → Room k (A.deeper (lamEnv X scope s.heap.objs.size f c')) → PE (lamCx X A outer s H E scope f c') body (t E))
    (hdb : (x == ("__debug__" : Str)) = false) (hd : (a == ("__debug__" : Str)) = false) (hcd : (a == ("__classdict__" : Str)) = false) :
    PE X (.Call (.Name x p) [.Lambda params body scope lpos] [] pos) (tLamG P T TT t) := by
  constructor
  rintro pins s σ H Q I ⟨hT, h⟩
  refine wpAny_Call_Name_kw (ld_glob I hg hm ?_ hdb)
  refine PySem.W.callWith_K (h₀ := X.base) I.ok.mod.kin hk ?_ (by rfl) (by rfl)
  show wpAny _ _ (spliced ((false, eval (.Lambda params body scope lpos) X.env) :: backTo pos (starEach [] X.env))) _ _ s
  refine Calls.spliced_cons (lam_makeG I TB hcode hmT hu hT hdef (L.has I.ok) ?_)
  intro f c' pm' ctv H1 s' I1 eN T1 hf hfn hfr hco
  refine Calls.spliced_nil ⟨I1.kIn, ?_⟩
  have rc : codeAny (model X.prog X.w) X.A (.call (.ref g) ⟨[.ref f], []⟩) (CR (L2.CX X.prog X.w) X.stack X.prog X.w H1 s' Q fun _ _ _ => False) s' := by
    refine run_ofS (N := Ng) (ps := [a]) (us := [.ref f]) (vs := [.ref f]) lk hcg Sg hr I1.env0 (hb s' [.ref f] I1.kIn rfl) (.cons rfl .nil) rfl fun hr' => ?_
    exact hG f c' s' H1 Q (fun E H' Q' => t E σ H' Q') (actG I1 hA L hf hfn hfr (hbind _ _ _ _ _) hr' (fun A outer s H E hA2 hr2 => hbody A outer s H E f c' hA2 hr2) hNg hva hd hcd) hco (h H1 eN T1)
  refine wpAny_call (codeAny_mono rc ?_)
  intro r s2 hq
  cases r with
  | error e => exact passes_call (E := fun _ _ _ => False) tkX (fun _ _ _ _ z => z.elim) _ _ _ _ _ _ I1 hq
  | ok fl =>
    cases fl with
    | ret u => exact I1.after hq
    | next => exact False.elim hq
    | brk => exact False.elim hq
    | cont => exact False.elim hq
end
/-- try: return (okS, a()) / except CS as n: return (badS, n.fld) -/
def TTas (K : PySem.W.Frag) (CS : Addr) (okS badS fld : Str) : (XK → Hp → VK → Prop) → Hp → VK → Prop := fun tl H Q =>
  tl (fun cls d H' => ∃ b, PySem.W.exmOne K cls (.ref CS) = some b ∧ (b = true → cls = .ref CS ∧ ∃ (dd : Addr) (fs : List (Str × V)) (v : V), d = some dd ∧ H' dd = some (.xd fs) ∧ fs.lookup fld = some v ∧ ∀ p, H' p = none → Q (.ref p) (upd H' p (.tup [.str badS, v]))) ∧ (b = false → False)) H
    fun v H' => [V.str okS, v].length ≤ sizeLine ∧ ∀ p, H' p = none → Q (.ref p) (upd H' p (.tup [.str okS, v]))
theorem as_gives {X : Cx} {Ng : List Str} {x a e n q okS badS fld : Str} {sg : Scope} {g CS : Addr} {cdg : Value} {j j2 k1 k2 : Nat} {p1 p2 p3 p4 p5 p6 p7 p8 p9 p10 p11 p12 p13 : Pos} (hnd : Ng.Nodup) (h1n : Ng[1]? = some n) (hln : sg.names.lookup n = some .local)
    (hge : sg.names.lookup e = some .globalImplicit) (hme : X.mg e = some (.ref CS)) (hde : (e == ("__debug__" : Str)) = false) (hdn : (n == ("__debug__" : Str)) = false) (hcn : (n == ("__classdict__" : Str)) = false) (h0 : ∀ f : Addr, (L2.start Ng [V.ref f])[0]? = some (some (V.ref f))) (h1 : ∀ f : Addr, 1 < (L2.start Ng [V.ref f]).length)
    (T : XfC X.K CS) (hno : PySem.W.findIn X.K (.ref CS) fld = some none) :
    GivesG X Ng x sg g cdg [.Try [.Return (some (.Tuple [.Constant (.str okS) j p1, .Call (.Name a p2) [] [] p3] k1 p4)) p5] [.ExceptHandler (some (.Name e p6)) (some n) [.Return (some (.Tuple [.Constant (.str badS) j2 p7, .Attribute (.Name n p8) fld p9] k2 p10)) p11] p12] [] [] p13] a q (TTas X.K CS okS badS fld) := by
  intro f c' s H Q tl act hc h
  have hgl : Gl (cxOf (L2.CX X.prog X.w) X.prog X.w X.K X.mg X.base Ng x sg g cdg X.A X.stack s H fun _ _ _ => False) e := hge
  refine ⟨_, pss_one (ps_try_as (X := cxOf (L2.CX X.prog X.w) X.prog X.w X.K X.mg X.base Ng x sg g cdg X.A X.stack s H fun _ _ _ => False) (i := 1) (n := n) (c := .ref CS) (Wout := fun _ _ _ _ => False)
      (tb := fun W D σ H => ∃ Ech : XK, (∀ cls d (σ' : L2.St) H', σ'.length = Ng.length → Ech cls d H' → W cls d σ' H') ∧ σ[0]? = some (some (.ref f)) ∧ H c' = some (CodeO c' q) ∧ tl Ech H fun v H' => [V.str okS, v].length ≤ sizeLine ∧ ∀ p, H' p = none → D.rt (.ref p) (upd H' p (.tup [.str okS, v])))
      rfl rfl hnd h1n hln ⟨hgl, hde, .inl hme⟩ LamX.takes0 (fun W pn xe tk _ => ?_) (fun a' oe cls d pn hz hf => pss_one (ps_ret (pe_tup (pa_cons pe_str (pa_cons (pe_xf T hno hz hf (pe_var (i := 1) h1n (.inl hln) hdn hcn)) pa_nil)))))), ?_⟩
  · refine ⟨fun pins s' σ H' D I h' => ?_⟩
    obtain ⟨Ech, hW, g1, g2, g3⟩ := h'
    have hp := act W pn xe Ech p2 p3 tk hW
    refine (pss_one (ps_ret (pos := p5) (pe_tup (x1 := k1) (pos := p4) (pa_cons (pe_str (x := okS) (j := j) (pos := p1)) (pa_cons hp pa_nil))))).run pins s' σ H' D I ?_
    exact ⟨g1, g2, g3⟩
  · refine ⟨_, fun cls d σ' H' hl hE => ?_, h0 f, hc, h⟩
    obtain ⟨b, e1, e2, e3⟩ := hE
    refine ⟨b, e1, fun hb a' ha' => ?_, fun hb => e3 hb⟩
    obtain ⟨rfl, dd, fs, v, rfl, hdd, hv, hq⟩ := e2 hb
    have hl1 : 1 < σ'.length := by
      rw [hl]
      exact (List.getElem?_eq_some_iff.mp h1n).1
    exact ⟨.ref a', List.getElem?_set_self hl1, rfl, rfl, dd, fs, v, rfl, hdd, hv, by show 2 ≤ sizeLine; decide, hq⟩
end Tre
/-! Tre3: readings by the evaluator; operators. -/
namespace Tre
open PySem PySem.Spec PyProof.Rows L2

def RQ {α : Type} (r : R α) (P : α → Src → Prop) (W : Nat → List D → Src → Prop) : Prop := match r with
  | .ok a s => P a s
  | .exc c a s => W c a s
  | .stuck => False
theorem RQ.bind {α β : Type} {r : R α} {f : α → Src → R β} {P : β → Src → Prop} {W : Nat → List D → Src → Prop} (h : RQ (r.bind f) P W) : RQ r (fun a s => RQ (f a s) P W) W := by
  cases r <;> exact h
theorem RQ.unbind {α β : Type} {r : R α} {f : α → Src → R β} {P : β → Src → Prop} {W : Nat → List D → Src → Prop} (h : RQ r (fun a s => RQ (f a s) P W) W) : RQ (r.bind f) P W := by
  cases r <;> exact h
theorem RQ.mono {α : Type} {r : R α} {P P' : α → Src → Prop} {W W' : Nat → List D → Src → Prop} (h : RQ r P W) (m : ∀ a s, P a s → P' a s) (n : ∀ c a s, W c a s → W' c a s) : RQ r P' W' := by
  cases r with
  | ok a s => exact m a s h
  | exc c a s => exact n c a s h
  | stuck => exact h
theorem RQ.of {α : Type} {o : Option α} {s : Src} {P : α → Src → Prop} {W : Nat → List D → Src → Prop} (h : RQ (R.of o s) P W) : ∃ a, o = some a ∧ P a s := by
  cases o with
  | none => exact h.elim
  | some a => exact ⟨a, rfl, h⟩
theorem RQ.calm {α : Type} {r : R α} {P : α → Src → Prop} {W W' : Nat → List D → Src → Prop} (h : RQ r.calm P W) : RQ r P W' := by
  cases r with
  | ok a s => exact h
  | exc => exact h.elim
  | stuck => exact h
theorem _root_.L2.PE.weak {X : Cx} {e : Expr} {t t' : TE} (h : PE X e t) (m : ∀ σ H Q, t' σ H Q → t σ H Q) : PE X e t' := ⟨fun pins s σ H Q I q => h.run pins s σ H Q I (m σ H Q q)⟩
theorem _root_.L2.PT.weak {X : Cx} {e : Expr} {t t' : TT} (h : PT X e t) (m : ∀ σ H Q, t' σ H Q → t σ H Q) : PT X e t' := ⟨fun pins s σ H Q I q => h.run pins s σ H Q I (m σ H Q q)⟩
theorem _root_.L2.PA.weak {X : Cx} {e : List Expr} {t t' : TA} (h : PA X e t) (m : ∀ σ H Q, t' σ H Q → t σ H Q) : PA X e t' := ⟨fun pos pins s σ H Q I q => h.run pos pins s σ H Q I (m σ H Q q)⟩

/-- how an exception stands: its class, its own dict -/
abbrev XT := Nat → Option (Addr × List Str)
def XR (K : PySem.W.Frag) (Xn : XT) (H : Hp) (c : Nat) (a : List D) (cls : Value) (d : Option Addr) : Prop :=
  ∃ C fs, Xn c = some (C, fs) ∧ cls = .ref C ∧ ((fs = [] ∧ a = []) ∨ ∃ dd vs, d = some dd ∧ H dd = some (.xd (fs.zip vs)) ∧ fs.length = vs.length ∧ RpA K (fun _ => none) vs a)

/-- what is fixed while a def runs -/
structure Cf where
  Φ : Nat → List Arg → Src → R (Bool × D)
  G : Nat → Option D
  Xn : XT
  /-- exception classes by their names, how many values each takes -/
  xcs : List (Str × Nat)
  /-- tables of code objects that change -/
  ts : List (Addr × Str)
  /-- defs that catch: the name, the class, the two words -/
  tds : List (Str × Nat × Str × Str)
structure Bx where
  S : SA
  O0 : Addr → Prop
  H0 : Hp
abbrev Bx.Rl (B : Bx) (K : PySem.W.Frag) (O : Addr → Prop) (env : Env) (σ : L2.St) (H : Hp) : Prop := Tre.Rl K B.S B.O0 B.H0 O env σ H

section
variable (C : Cf) (K : PySem.W.Frag) (B : Bx) (W : WX)
/-- what is wanted of an exception -/
def wX (σ : L2.St) (H : Hp) : Nat → List D → Src → Prop := fun c a s' => ∀ H' cls d, Ex B.S H H' → SrcR B.S H' s' → XR K C.Xn H' c a cls d → W cls d σ H'
def tE (t : T) : TE := fun σ H Q => ∃ env s O, B.Rl K O env σ H ∧ SrcR B.S H s ∧ RQ (evE C.Φ C.G t env s) (fun x s' =>
  ∀ v H', Ex B.S H H' → SrcR B.S H' s' → VR K B.S O H H' x.1 v x.2 → Q v H') (wX C K B W σ H)
def tT (t : T) : TT := fun σ H Q => ∃ env s O, B.Rl K O env σ H ∧ SrcR B.S H s ∧ RQ (evE C.Φ C.G t env s) (fun x s' =>
  ∀ H', Ex B.S H H' → SrcR B.S H' s' → Q (truth x.2) H') (wX C K B W σ H)
/-- rows of values -/
def VRs (K : PySem.W.Frag) (S : SA) (O : Addr → Prop) (Ha H : Hp) : List V → List (Kd × D) → Prop
  | [], [] => True
  | v :: vs, x :: xs => VR K S O Ha H x.1 v x.2 ∧ VRs K S O Ha H vs xs
  | _, _ => False
def tA (t : T) : TA := fun σ H Q => ∃ env s O, B.Rl K O env σ H ∧ SrcR B.S H s ∧ RQ (evA C.Φ C.G t env s) (fun xs s' =>
  ∀ vs H', Ex B.S H H' → SrcR B.S H' s' → VRs K B.S O H H' vs xs → Q vs H') (wX C K B W σ H)
/-- an argument -/
def AR (K : PySem.W.Frag) (S : SA) (O : Addr → Prop) (H : Hp) : List V → List Arg → Prop
  | [], [] => True
  | v :: vs, .d x :: xs => Rp K (hide H O) v x ∧ AR K S O H vs xs
  | v :: vs, .src :: xs => v = .ref S.a1 ∧ AR K S O H vs xs
  | _, _ => False
def tG (t : T) : TA := fun σ H Q => ∃ env s O, B.Rl K O env σ H ∧ SrcR B.S H s ∧ RQ (evG C.Φ C.G t env s) (fun xs s' =>
  ∀ vs H', Ex B.S H H' → SrcR B.S H' s' → AR K B.S O H' vs xs → (∀ a, O a → H' a ≠ none) → (∀ b, B.S.Out b → O b) → Q vs H') (wX C K B W σ H)
def tO (t : T) : TO := fun σ H Q => ∃ env s O, B.Rl K O env σ H ∧ SrcR B.S H s ∧ RQ (evO C.Φ C.G t env s) (fun x s' =>
  ∀ H', Ex B.S H H' → SrcR B.S H' s' → Q x H') (wX C K B W σ H)
end

section
variable {C : Cf} {K : PySem.W.Frag} {B : Bx} {W : WX} {O : Addr → Prop} {H : Hp} {env : Env} {σ : L2.St} {s : Src}
theorem wX.ext {H1 : Hp} {s1 : Src} (e : Ex B.S H H1) {c : Nat} {a : List D} {s' : Src} (h : wX C K B W σ H c a s') : wX C K B W σ H1 c a s' := fun H' cls d e' q x => h H' cls d (e.trans e') q x
theorem eOne {a : T} {P : V → Hp → Prop} (r : B.Rl K O env σ H) (q : SrcR B.S H s)
    (h : RQ (evE C.Φ C.G a env s) (fun x s1 => ∀ u H1, Ex B.S H H1 → SrcR B.S H1 s1 → VR K B.S O H H1 x.1 u x.2 → P u H1) (wX C K B W σ H)) : tE C K B W a σ H P := ⟨env, s, O, r, q, h⟩
theorem eTwo {a b : T} {P : V → V → Hp → Prop} (r : B.Rl K O env σ H) (q : SrcR B.S H s)
    (h : RQ (evE C.Φ C.G a env s) (fun x s1 => RQ (evE C.Φ C.G b env s1) (fun y s2 => ∀ u w H2, Ex B.S H H2 → SrcR B.S H2 s2 → VR K B.S O H H2 x.1 u x.2 → VR K B.S O H H2 y.1 w y.2 → P u w H2) (wX C K B W σ H)) (wX C K B W σ H)) :
    tE C K B W a σ H fun u H1 => tE C K B W b σ H1 fun w H2 => P u w H2 := by
  refine ⟨env, s, O, r, q, h.mono (fun x s1 h1 => ?_) fun _ _ _ z => z⟩
  intro u H1 e1 q1 v1
  exact ⟨env, s1, O, r.ext e1 q1, q1, h1.mono (fun y s2 h2 w H2 e2 q2 v2 => h2 u w H2 (e1.trans e2) q2 (v1.ext r e1 q1 e2 q2) (v2.back e1 q1)) fun c a s' z => wX.ext (s1 := s1) e1 z⟩
theorem VRs.ext {H1 H' : Hp} {s1 s' : Src} (r : B.Rl K O env σ H) : ∀ {vs : List V} {xs : List (Kd × D)}, VRs K B.S O H H1 vs xs → Ex B.S H H1 → SrcR B.S H1 s1 → Ex B.S H1 H' → SrcR B.S H' s' → VRs K B.S O H H' vs xs
  | [], [], _, _, _, _, _ => trivial
  | v :: vs, x :: xs, h, e0, q1, e, q => ⟨h.1.ext r e0 q1 e q, VRs.ext r h.2 e0 q1 e q⟩
theorem VRs.back {S : SA} {H1 H' : Hp} {s1 : Src} : ∀ {vs : List V} {xs : List (Kd × D)}, VRs K S O H1 H' vs xs → Ex S H H1 → SrcR S H1 s1 → VRs K S O H H' vs xs
  | [], [], _, _, _ => trivial
  | v :: vs, x :: xs, h, e0, q1 => ⟨h.1.back e0 q1, VRs.back h.2 e0 q1⟩
theorem AR.ext {S : SA} {H1 H' : Hp} (e : Same (hide H1 O) (hide H' O)) : ∀ {vs : List V} {xs : List Arg}, AR K S O H1 vs xs → AR K S O H' vs xs
  | [], [], _ => trivial
  | v :: vs, .d x :: xs, h => ⟨h.1.mono e, AR.ext e h.2⟩
  | v :: vs, .src :: xs, h => ⟨h.1, AR.ext e h.2⟩
end

section
variable {K : PySem.W.Frag} {S : SA} {O : Addr → Prop} {H : Hp}
/-! ### a new object -/
theorem hide_new {p : Addr} {o : HO} (hO : ∀ a, O a → H a ≠ none) (hp : H p = none) : Same (hide H O) (hide (upd H p o) O) :=
  hide_same (fun a x _ e => same_new hp a x e) fun a z n => absurd z n
theorem hide_new2 {p : Addr} {o : HO} (hO : ∀ a, O a → H a ≠ none) (hp : H p = none) : Same (hide H O) (hide (upd H p o) fun b => O b ∨ b = p) :=
  hide_same (fun a x _ e => same_new hp a x e) fun a z n => z.elim (fun z => absurd z n) fun z => by subst z; exact hp
theorem new_tup {p : Addr} {vs : List V} {ds : List D} (hO : ∀ a, O a → H a ≠ none) (hp : H p = none) (h : RpA K (hide H O) vs ds) : VR K S O H (upd H p (.tup vs)) .frz (.ref p) (.tuple ds) := by
  refine Rp.tup (.inl (.inl ?_)) (h.mono (hide_new hO hp))
  rw [hide_out (fun z => hO p z hp)]
  exact upd_same
theorem new_lst {p : Addr} {vs : List V} {ds : List D} (hO : ∀ a, O a → H a ≠ none) (hp : H p = none) (h : RpA K (hide H O) vs ds) : VR K S O H (upd H p (.lst vs)) .own (.ref p) (.list ds) :=
  ⟨p, vs, ds, rfl, rfl, hp, upd_same, h.mono (hide_new2 hO hp)⟩
theorem new_lstF {p : Addr} {vs : List V} {ds : List D} (hO : ∀ a, O a → H a ≠ none) (hp : H p = none) (h : RpA K (hide H O) vs ds) : VR K S O H (upd H p (.lst vs)) .frz (.ref p) (.list ds) := by
  refine Rp.lst ?_ (h.mono (hide_new hO hp))
  rw [hide_out (fun z => hO p z hp)]
  exact upd_same
end

/-- by values: two values go in, the evaluator's worth comes out -/
def rV2 (K : PySem.W.Frag) (S : SA) (f : D → D → Option (Kd × D)) : R2 := fun u w H Q => ∃ (O : Addr → Prop) (Ha : Hp) (k1 k2 : Kd) (x y : D) (k : Kd) (z : D), (∀ a, O a → H a ≠ none) ∧ VR K S O Ha H k1 u x ∧ VR K S O Ha H k2 w y ∧ f x y = some (k, z) ∧
  ∀ v H', Same H H' → VR K S O H H' k v z → Q v H'
theorem VR.scal {K : PySem.W.Frag} {S : SA} {O : Addr → Prop} {Ha H : Hp} : VR K S O Ha H .frz .non .none := Rp.non

section
variable {X : Cx} {S : SA}
theorem rV2.of {f g : D → D → Option (Kd × D)} {u w : V} {H : Hp} {Q : VK} (h : rV2 X.K S f u w H Q) (e : ∀ x y, f x y = g x y) : rV2 X.K S g u w H Q := by
  obtain ⟨O, Ha, k1, k2, x, y, k, z, a, b, c, d, q⟩ := h
  exact ⟨O, Ha, k1, k2, x, y, k, z, a, b, c, (e x y) ▸ d, q⟩
theorem str_app_ok {a b : Str} (h1 : PyData.strOk a = true) (h2 : PyData.strOk b = true) : PyData.strOk (a ++ b) = true := by
  unfold PyData.strOk at *
  show (a.cps ++ b.cps).all _ = true
  rw [Array.all_append, h1, h2] <;> rfl
theorem str_len_app (a b : Str) : (a ++ b).length = a.length + b.length := by
  show (a.cps ++ b.cps).size = _
  exact Array.size_append
theorem cmul_of {i j : Int} (h : cmulB i j = true) : CMul i j := by
  unfold cmulB at h
  simp only [Bool.or_eq_true, Bool.and_eq_true, decide_eq_true_eq] at h
  exact h
theorem foldl_cat : ∀ (l : List (Array Nat)) (b : Array Nat), (l.foldl (· ++ ·) b).toList = b.toList ++ (l.map Array.toList).flatten
  | [], b => by simp
  | x :: l, b => by rw [List.foldl_cons, foldl_cat l, Array.toList_append, List.map_cons, List.flatten_cons, List.append_assoc]
theorem mul_tl {x : Str} {k : Int} (h : 2 ≤ k) : (Txt.mul x k).cps.toList = (List.replicate k.toNat x.cps.toList).flatten := by
  unfold Txt.mul
  rw [if_neg (by omega)]
  split
  · rename_i c
    simp only [Bool.or_eq_true, beq_iff_eq] at c
    rcases c with c | c
    · omega
    · have : x.cps.toList = [] := List.eq_nil_of_length_eq_zero (by rw [Array.length_toList]; exact c)
      rw [this]
      simp
  · show (List.foldl (· ++ ·) #[] (List.replicate k.toNat x.cps)).toList = _
    rw [foldl_cat, List.map_replicate]
    simp
theorem mul_len {x : Str} {k : Int} (h : 2 ≤ k) : (Txt.mul x k).length = k.toNat * x.length := by
  show (Txt.mul x k).cps.size = _
  rw [← Array.length_toList, mul_tl h, List.length_flatten, List.map_replicate, List.sum_replicate_nat, Array.length_toList]
  rfl
theorem mul_ok {x : Str} {k : Int} (h : 2 ≤ k) (g : PyData.strOk x = true) : PyData.strOk (Txt.mul x k) = true := by
  unfold PyData.strOk at *
  rw [← Array.all_toList, List.all_eq_true] at *
  intro c hc
  rw [mul_tl h] at hc
  obtain ⟨l, hl, hc⟩ := List.mem_flatten.mp hc
  obtain rfl := (List.mem_replicate.mp hl).2
  exact g c hc
theorem op_ok (o : Operator) : OpR X (binaryOp o) (rV2 X.K S (opF o)) := by
  intro pins s σ H u w vu vw Q I ru rw' h
  obtain ⟨O, Ha, k1, k2, x, y, k, z, hO, hx, hy, e, q⟩ := h
  unfold opF at e
  split at e
  · cases e
    obtain rfl := hx.int; obtain rfl := hy.int
    exact op_add pins s σ H _ _ vu vw Q I ru rw' ⟨_, _, rfl, rfl, q _ _ (Same.refl _) (Rp.int _)⟩
  · split at e <;> cases e
    obtain ⟨rfl, l1, l2⟩ := hx.str; obtain ⟨rfl, m1, m2⟩ := hy.str
    refine op_add_str pins s σ H _ _ vu vw Q I ru rw' ⟨_, _, rfl, rfl, by assumption, q _ _ (Same.refl _) (Rp.str _ ?_ (str_app_ok l2 m2))⟩
    rw [str_len_app]; assumption
  · split at e <;> cases e
    obtain ⟨a, vs, rfl, ea, ra⟩ := hx.list; obtain ⟨b, ws, rfl, eb, rb⟩ := hy.list
    refine op_cat pins s σ H _ _ vu vw Q I ru rw' ⟨_, _, _, _, rfl, rfl, ea, eb, ?_, fun p hp => q _ _ (same_new hp) (new_lst hO hp (ra.app rb))⟩
    rw [ra.len, rb.len]; assumption
  · split at e <;> cases e
    have fx := hx.tupleF
    have fy := hy.tupleF
    obtain ⟨a, vs, rfl, ea, ra⟩ := hx.tuple; obtain ⟨b, ws, rfl, eb, rb⟩ := hy.tuple
    refine op_catA pins s σ H _ _ vu vw Q I ru rw' ⟨_, _, _, _, rfl, rfl, ea, eb, ?_, fun n => ?_, fun _ n => ?_, fun _ _ p hp => q _ _ (same_new hp) (new_tup hO hp (ra.app rb))⟩
    · rw [ra.len, rb.len]; assumption
    · subst n; cases ra; exact q _ _ (Same.refl _) fy
    · subst n; cases rb
      rw [List.append_nil] at q
      exact q _ _ (Same.refl _) fx
  · cases e
    obtain rfl := hx.int; obtain rfl := hy.int
    exact op_sub pins s σ H _ _ vu vw Q I ru rw' ⟨_, _, rfl, rfl, q _ _ (Same.refl _) (Rp.int _)⟩
  · split at e <;> cases e
    obtain rfl := hx.int; obtain rfl := hy.int
    exact op_mul pins s σ H _ _ vu vw Q I ru rw' ⟨_, _, rfl, rfl, cmul_of (by assumption), q _ _ (Same.refl _) (Rp.int _)⟩
  · split at e <;> cases e
    rename_i hz
    obtain ⟨a, vs, rfl, ea, ra⟩ := hx.list; obtain rfl := hy.int
    exact op_rep pins s σ H _ _ vu vw Q I ru rw' ⟨_, _, _, rfl, rfl, ea, hz.1, hz.2.1, by rw [ra.len]; exact hz.2.2, fun p hp => q _ _ (same_new hp) (new_lst hO hp (ra.rep _))⟩
  · split at e <;> cases e
    rename_i xs kk hz
    obtain ⟨a, vs, rfl, ea, ra⟩ := hx.tuple; obtain rfl := hy.int
    refine op_repT pins s σ H _ _ vu vw Q I ru rw' ⟨_, _, _, rfl, rfl, ea, ?_, hz.1, hz.2.1, by rw [ra.len]; exact hz.2.2.1, fun p hp => q _ _ (same_new hp) (new_tup hO hp (ra.rep _))⟩
    intro n
    subst n
    cases ra
    exact absurd hz.2.2.2 (by simp)
  · split at e <;> cases e
    rename_i xx kk hz
    obtain ⟨rfl, l1, l2⟩ := hx.str; obtain rfl := hy.int
    obtain ⟨tx, rfl⟩ := ru
    obtain ⟨ty, rfl⟩ := rw'
    refine SB.mul ?_ fun t' k => ⟨.str (Txt.mul xx kk), H, I.tok _, ⟨_, rfl⟩, q _ _ (Same.refl _) (Rp.str _ ?_ (mul_ok hz.1 l2))⟩
    · have e1 : xx.length * kk.toNat ≤ 1000 * 1000 := Nat.mul_le_mul hz.2.2.1 (by omega)
      refine ⟨by simp only [Bool.or_eq_false_iff, decide_eq_false_iff_not]; omega, fun _ _ => ?_, fun _ _ => ?_⟩
      · have : (1000 : Int) ≤ (2 ^ 63 - 1) / kk := Int.le_ediv_of_mul_le (by omega) (by omega)
        omega
      · show decide (_ > sizeLine) = false
        rw [decide_eq_false_iff_not, sizeLine_eq]
        omega
    · rw [mul_len hz.1]
      have e1 : kk.toNat * xx.length ≤ 1000 * 1000 := Nat.mul_le_mul (by omega) hz.2.2.1
      rw [sizeLine_eq]; omega
  · split at e <;> cases e
    obtain rfl := hx.int; obtain rfl := hy.int
    exact op_fdiv pins s σ H _ _ vu vw Q I ru rw' ⟨_, _, rfl, rfl, by assumption, q _ _ (Same.refl _) (Rp.int _)⟩
  · split at e <;> cases e
    obtain rfl := hx.int; obtain rfl := hy.int
    exact op_mod pins s σ H _ _ vu vw Q I ru rw' ⟨_, _, rfl, rfl, by assumption, q _ _ (Same.refl _) (Rp.int _)⟩
  · split at e <;> cases e
    obtain rfl := hx.int; obtain rfl := hy.int
    exact op_pow pins s σ H _ _ vu vw Q I ru rw' ⟨_, _, rfl, rfl, by assumption, q _ _ (Same.refl _) (Rp.int _)⟩
  · cases e

/-! ### comparisons -/
def rC2 (K : PySem.W.Frag) (S : SA) (f : D → D → Option Bool) : R2 := fun u w H Q => ∃ (O : Addr → Prop) (Ha : Hp) (k1 k2 : Kd) (x y : D) (b : Bool), VR K S O Ha H k1 u x ∧ VR K S O Ha H k2 w y ∧ f x y = some b ∧ Q (.bl b) H
theorem isNon_of {K : PySem.W.Frag} {H : Hp} {u : V} {x : D} (h : Rp K H u x) : decide (u = .non) = isNoneD x := by cases h <;> rfl
theorem cmp_ok (hu : X.A.units + 200 < cLine) (o : CmpOp) : OpR X (compareOp o) (rC2 X.K S (cmpF o)) := by
  intro pins s σ H u w vu vw Q I ru rw' h
  obtain ⟨O, Ha, k1, k2, x, y, b, hx, hy, e, q⟩ := h
  have hx := hx.rp
  have hy := hy.rp
  have big : ∀ n : Nat, n ≤ 64 → X.A.units + 1 + n < cLine := fun n h => by omega
  cases o with
  | Eq =>
    replace e : eqF x y = some b := e
    unfold eqF at e
    split at e <;> cases e
    obtain ⟨as, r1⟩ := Dp.reads I x u vu hx.dp ru
    obtain ⟨bs, r2⟩ := Dp.reads I y w vw hy.dp rw'
    refine SeqAt.compareEq_reads r1 r2 hx.lay hy.lay ?_ ⟨.bl _, H, I, rfl, q⟩
    have := big _ (by assumption)
    show X.A.units + Nat.min x.depth y.depth < cLine
    omega
  | NotEq =>
    replace e : (eqF x y).map (!·) = some b := e
    unfold eqF at e
    split at e <;> cases e
    obtain ⟨as, r1⟩ := Dp.reads I x u vu hx.dp ru
    obtain ⟨bs, r2⟩ := Dp.reads I y w vw hy.dp rw'
    refine SeqAt.compareNe_reads r1 r2 hx.lay hy.lay ?_ ⟨.bl _, H, I, rfl, q⟩
    have := big _ (by assumption)
    show X.A.units + Nat.min x.depth y.depth < cLine
    omega
  | Lt =>
    replace e : i2F (fun i j => decide (i < j)) x y = some b := e
    unfold i2F at e
    split at e <;> cases e
    cases hx; cases hy
    exact op_lt pins s σ H _ _ vu vw Q I ru rw' ⟨_, _, rfl, rfl, q⟩
  | LtE =>
    replace e : i2F (fun i j => decide (i ≤ j)) x y = some b := e
    unfold i2F at e
    split at e <;> cases e
    cases hx; cases hy
    exact op_le pins s σ H _ _ vu vw Q I ru rw' ⟨_, _, rfl, rfl, q⟩
  | Gt =>
    replace e : i2F (fun i j => decide (j < i)) x y = some b := e
    unfold i2F at e
    split at e <;> cases e
    cases hx; cases hy
    exact op_gt pins s σ H _ _ vu vw Q I ru rw' ⟨_, _, rfl, rfl, q⟩
  | GtE =>
    replace e : i2F (fun i j => decide (j ≤ i)) x y = some b := e
    unfold i2F at e
    split at e <;> cases e
    cases hx; cases hy
    exact op_ge pins s σ H _ _ vu vw Q I ru rw' ⟨_, _, rfl, rfl, q⟩
  | Is =>
    replace e : isF x y = some b := e
    unfold isF at e
    split at e <;> cases e
    rw [← isNon_of hx] at q
    cases hy
    exact op_isN pins s σ H _ _ vu vw Q I ru rw' ⟨rfl, q⟩
  | IsNot =>
    replace e : (isF x y).map (!·) = some b := e
    unfold isF at e
    split at e <;> cases e
    rw [← isNon_of hx] at q
    cases hy
    exact op_notN pins s σ H _ _ vu vw Q I ru rw' ⟨rfl, q⟩
  | In =>
    replace e : inF x y = some b := e
    unfold inF at e
    split at e
    · split at e <;> cases e
      obtain ⟨as, r1⟩ := Dp.reads I x u vu hx.dp ru
      obtain ⟨bs, r2⟩ := Dp.reads I _ w vw hy.dp rw'
      refine SeqAt.in_list_reads r2 r1 ?_ hx.lay (big _ (by assumption)) ⟨.bl _, H, I, rfl, q⟩
      simpa only [PyData.canLay0] using hy.lay
    · split at e <;> cases e
      obtain ⟨as, r1⟩ := Dp.reads I x u vu hx.dp ru
      obtain ⟨bs, r2⟩ := Dp.reads I _ w vw hy.dp rw'
      refine SeqAt.in_tuple_reads r2 r1 ?_ hx.lay (big _ (by assumption)) ⟨.bl _, H, I, rfl, q⟩
      simpa only [PyData.canLay0] using hy.lay
    · split at e <;> cases e
      cases hx; cases hy
      exact op_in_str pins s σ H _ _ vu vw Q I ru rw' ⟨_, _, rfl, rfl, q⟩
    · cases e
  | NotIn =>
    replace e : (inF x y).map (!·) = some b := e
    unfold inF at e
    split at e
    · split at e <;> cases e
      obtain ⟨as, r1⟩ := Dp.reads I x u vu hx.dp ru
      obtain ⟨bs, r2⟩ := Dp.reads I _ w vw hy.dp rw'
      refine SeqAt.notIn_list_reads r2 r1 ?_ hx.lay (big _ (by assumption)) ⟨.bl _, H, I, rfl, q⟩
      simpa only [PyData.canLay0] using hy.lay
    · split at e <;> cases e
      obtain ⟨as, r1⟩ := Dp.reads I x u vu hx.dp ru
      obtain ⟨bs, r2⟩ := Dp.reads I _ w vw hy.dp rw'
      refine SeqAt.notIn_tuple_reads r2 r1 ?_ hx.lay (big _ (by assumption)) ⟨.bl _, H, I, rfl, q⟩
      simpa only [PyData.canLay0] using hy.lay
    · split at e <;> cases e
      cases hx; cases hy
      exact op_notin_str pins s σ H _ _ vu vw Q I ru rw' ⟨_, _, rfl, rfl, q⟩
    · cases e
end
end Tre
/-! Tre4: defs that are called where no guard runs; built-ins by values. -/
namespace Tre
open PySem PySem.Spec PyProof.Rows L2

/-- as FnOk, where no guard is on the stack -/
structure FnG (P : Program) (w : World) (K : PySem.W.Frag) (mg : Str → Option Value) (base : Heap) (CX : CXT) (k : Nat) (f : Addr) (fd : FuncData) (ps : List Str) (sp : Sp) : Prop where
  len : ∀ vs H Q E, sp vs H Q E → vs.length = ps.length
  run : ∀ (A : Around), A.guards = some [] → ∀ (outer : List PySem.Env) (s : Shared) (H : Hp) (args : Args) (us : List Value) (vs : List V) (Q : VK) (E : XK), Room k A → Env0 P w K mg base A outer s H → BindsTo s fd args (ps.zip us) → Vals vs us →
    sp vs H Q E → codeAny (model P w) A (.call (.ref f) args) (CR CX outer P w H s Q E) s
theorem FnG.of {P : Program} {w : World} {K : PySem.W.Frag} {mg : Str → Option Value} {base : Heap} {CX : CXT} {k : Nat} {f : Addr} {fd : FuncData} {ps : List Str} {sp : Sp} (F : FnOk P w K mg base CX k f fd ps sp) : FnG P w K mg base CX k f fd ps sp :=
  ⟨F.len, fun A _ => F.run A⟩
theorem FnG.mono {P : Program} {w : World} {K : PySem.W.Frag} {mg : Str → Option Value} {base : Heap} {CX : CXT} {j k : Nat} {f : Addr} {fd : FuncData} {ps : List Str} {sp : Sp} (F : FnG P w K mg base CX j f fd ps sp) (h : j ≤ k) :
    FnG P w K mg base CX k f fd ps sp := ⟨F.len, fun A hA outer s H args us vs Q E hr => F.run A hA outer s H args us vs Q E (hr.mono h)⟩

section
variable {X : Cx} {CX : CXT} {k : Nat} {f : Addr} {fd : FuncData} {ps : List Str} {sp : Sp} {E : L2.St → XK} {x : Str} {p pos : Pos} {e : Expr} {es : List Expr} {t : TA}
theorem callG {pins : List (Addr × Obj)} {σ : L2.St} {H : Hp} {s : Shared} {Q : VK} {us : List Value} {vs : List V} (F : FnG X.prog X.w X.K X.mg X.base CX k f fd ps sp) (hA : X.A.guards = some []) (hr : Room k X.A) (hb : Binds X.K fd ps []) (hx : PassesAt CX X σ (E σ))
    (I : Inv X pins σ H s) (r : Vals vs us) (h : sp vs H Q (E σ)) : wpAny (model X.prog X.w) X.A (call (.ref f) us) (EP X pins σ Q) X.xe s := by
  have hl : (us ++ []).length = ps.length := by rw [List.append_nil, ← r.length]; exact F.len _ _ _ _ h
  have hb' := hb s us I.kIn hl
  rw [List.append_nil] at hb'
  refine wpAny_call (codeAny_mono (F.run X.A hA X.stack s H ⟨us, []⟩ us vs Q (E σ) hr I.env0 hb' r h) ?_)
  intro res s' hq
  cases res with
  | error e => exact hx pins H s e s' I hq
  | ok fl =>
    cases fl with
    | ret u => exact I.after hq
    | next => exact hq.elim
    | brk => exact hq.elim
    | cont => exact hq.elim
theorem pe_callG (F : FnG X.prog X.w X.K X.mg X.base CX k f fd ps sp) (hA : X.A.guards = some []) (hr : Room k X.A) (hg : Gl X x) (hm : X.mg x = some (.ref f)) (hk : PySem.W.keepIn X.K (.ref f) = true) (hb : Binds X.K fd ps []) (hx : ∀ σ, PassesAt CX X σ (E σ))
    (ha : PA X (e :: es) t) (hdb : (x == ("__debug__" : Str)) = false) (he : starEach (e :: es) X.env = (false, eval e X.env) :: starEach es X.env) (hpl : (backTo pos (starEach es X.env)).any (·.1) = false) :
    PE X (.Call (.Name x p) (e :: es) [] pos) (fun σ H Q => t σ H fun vs H1 => sp vs H1 Q (E σ)) := by
  constructor
  intro pins s σ H Q I h
  refine wpAny_Call_Name_kw (ld_glob I hg hm ?_ hdb)
  refine PySem.W.callWith_K (h₀ := X.base) I.ok.mod.kin hk ?_ he hpl
  refine thn (ha.run pos pins s σ H _ I h) ?_
  rintro us s1 ⟨vs, H1, I1, r, q⟩
  exact ⟨I1.kIn, callG F hA hr hb (hx σ) I1 r q⟩
theorem pe_callG0 (F : FnG X.prog X.w X.K X.mg X.base CX k f fd ps sp) (hA : X.A.guards = some []) (hr : Room k X.A) (hg : Gl X x) (hm : X.mg x = some (.ref f)) (hk : PySem.W.keepIn X.K (.ref f) = true) (hb : Binds X.K fd ps []) (hx : ∀ σ, PassesAt CX X σ (E σ))
    (hdb : (x == ("__debug__" : Str)) = false) : PE X (.Call (.Name x p) [] [] pos) (fun σ H Q => sp [] H Q (E σ)) := by
  constructor
  intro pins s σ H Q I h
  refine wpAny_Call_Name_kw (ld_glob I hg hm ?_ hdb)
  exact PySem.W.callWith_K0 I.kIn hk (callG (us := []) F hA hr hb (hx σ) I .nil h)
end

/-- a def by its body -/
theorem fnG_of {CX : CXT} {P : Program} {w : World} {K : PySem.W.Frag} {mg : Str → Option Value} {base : Heap} {k : Nat} {f : Addr} {name qual : Str} {params : Arguments} {body : List Stmt} {scope : Scope} {dV kV doc pm cdv ct oc : Value} {an od : Option Addr}
    {osl : Array (Option Value)} {N ps : List Str} {sp : Sp} (lk : K.lookup f = some ⟨oc, od, .func (PySem.W.fnOf name qual params body scope dV kV doc pm an cdv ct), osl⟩) (hcd : PySem.W.codeIn K cdv qual = true) (S : FnScope N ps scope)
    (len : ∀ vs H Q E, sp vs H Q E → vs.length = ps.length)
    (hbody : ∀ (A : Around) (outer : List PySem.Env) (s : Shared) (H : Hp) (vs : List V) (Q : VK) (E : XK), A.guards = some [] → Room k (A.deeper (envOfC qual scope s.heap.objs.size f cdv)) → sp vs H Q E →
      ∃ t, PSs (cxOf CX P w K mg base N qual scope f cdv A outer s H E) body t ∧ t { nx := fun _ H' => Q .non H', rt := Q } (start N vs) H) :
    FnG P w K mg base CX (k + 1) f (PySem.W.fnOf name qual params body scope dV kV doc pm an cdv ct) ps sp := by
  constructor
  · exact len
  intro A hA outer s H args us vs Q E hr e0 hb r hsp
  have kin : K.In s.heap := e0.mod.kin.keeps fun b o e => (e0.bs b o e).1
  have lim : s.heap.NoLimit := e0.mod.nolimit.keeps fun b o e => (e0.bs b o e).1
  refine codeAny_call_function hr.depth (kin _ _ lk) rfl S.co S.gen rfl (PySem.W.codeRec_of kin hcd) (hb _ _ _ _ ?_)
  have hkind : ∀ y ∈ ps.zip us, scope.names.lookup y.1 = some .local ∨ (scope.names.lookup y.1 = some .cell ∧ ((cellsFrom (s.heap.objs.size + 1) scope.names []).lookup y.1).isSome = true) := by
    rintro ⟨n, v⟩ hy
    cases S.par n (List.of_mem_zip hy).1 with
    | inl q => exact Or.inl q
    | inr q => exact Or.inr ⟨q, PySem.W.cellsFrom_some _ _ _ (Or.inl q)⟩
  refine wpAny_newFunctionEnv_cells S.kind hkind ?_
  intro env he s1 x
  subst he
  refine ⟨lim.keeps x.toInCall.keep, codeAny_func ?_⟩
  obtain ⟨t, ht, hq⟩ := hbody A outer s H vs Q E hA (hr.deeper _) hsp
  have I0 : Inv (cxOf CX P w K mg base N qual scope f cdv A outer s H E) [] (start N vs) H s1 := inv_start S hr.hd e0 (len _ _ _ _ hsp) r x
  refine wpAny_mono (ht.run [] s1 (start N vs) H _ I0 hq) ?_ (fun e s' hs => hs)
  intro fl s' hs
  cases fl with
  | ret u =>
    obtain ⟨v, σ', H', J, rv, q⟩ := hs
    exact ⟨v, H', J.os, J.bare, J.base, J.hok, rv, q⟩
  | next =>
    obtain ⟨σ', H', J, q⟩ := hs
    exact ⟨V.non, H', J.os, J.bare, J.base, J.hok, rfl, q⟩
  | brk =>
    obtain ⟨_, _, _, q⟩ := hs
    exact q.elim
  | cont =>
    obtain ⟨_, _, _, q⟩ := hs
    exact q.elim

/-! ### built-ins by values -/
def rVn (K : PySem.W.Frag) (S : SA) (f : List D → Option (Kd × D)) : List V → Hp → VK → Prop := fun us H Q => ∃ (O : Addr → Prop) (Ha : Hp) (xs : List (Kd × D)) (k : Kd) (z : D), (∀ a, O a → H a ≠ none) ∧ VRs K S O Ha H us xs ∧ f (xs.map (·.2)) = some (k, z) ∧
  ∀ v H', Same H H' → VR K S O H H' k v z → Q v H'
theorem vrs1 {K : PySem.W.Frag} {S : SA} {O : Addr → Prop} {Ha H : Hp} {us : List V} {xs : List (Kd × D)} {d : D} (h : VRs K S O Ha H us xs) (e : xs.map (·.2) = [d]) : ∃ u k, us = [u] ∧ VR K S O Ha H k u d := by
  match us, xs, h, e with
  | [u], [(k, x)], h, e =>
    have e' : x = d := by simpa using e
    subst e'
    exact ⟨u, k, rfl, h.1⟩
  | _, [], _, e => cases e
  | _, _ :: _ :: _, _, e => cases e
  | [], [_], h, _ => exact h.elim
  | _ :: _ :: _, [_], h, _ => exact h.2.elim
theorem vrs2 {K : PySem.W.Frag} {S : SA} {O : Addr → Prop} {Ha H : Hp} {us : List V} {xs : List (Kd × D)} {d d' : D} (h : VRs K S O Ha H us xs) (e : xs.map (·.2) = [d, d']) :
    ∃ u u' k k', us = [u, u'] ∧ VR K S O Ha H k u d ∧ VR K S O Ha H k' u' d' := by
  match us, xs, h, e with
  | [u, u'], [(k, x), (k', x')], h, e =>
    have e' : x = d ∧ x' = d' := by simpa using e
    obtain ⟨rfl, rfl⟩ := e'
    exact ⟨u, u', k, k', rfl, h.1, h.2.1⟩
  | _, [], _, e => cases e
  | _, [_], _, e => cases e
  | _, _ :: _ :: _ :: _, _, e => cases e
  | [], _ :: _, h, _ => exact h.elim
  | [_], _ :: _ :: _, h, _ => exact h.2.elim
  | _ :: _ :: _ :: _, [_, _], h, _ => exact h.2.2.elim
theorem ints_of {K : PySem.W.Frag} {H : Hp} : ∀ {ds : List D} {vs : List V} {ns : List Int}, RpA K H vs ds → intsOf ds = some ns → vs = ns.map V.int
  | [], _, _, h, e => by cases h; cases e; rfl
  | d :: ds, _, ns, h, e => by
    cases h with
    | cons h1 h2 =>
      cases d with
      | int i =>
        have e' : (intsOf ds).map (i :: ·) = some ns := e
        cases q : intsOf ds with
        | none => rw [q] at e'; cases e'
        | some ms =>
          rw [q] at e'
          cases e'
          cases h1
          rw [ints_of h2 q]
          rfl
      | _ => cases e
theorem bools_of {K : PySem.W.Frag} {H : Hp} : ∀ {ds : List D} {vs : List V} {ns : List Bool}, RpA K H vs ds → boolsOf ds = some ns → vs = ns.map V.bl
  | [], _, _, h, e => by cases h; cases e; rfl
  | d :: ds, _, ns, h, e => by
    cases h with
    | cons h1 h2 =>
      cases d with
      | bool i =>
        have e' : (boolsOf ds).map (i :: ·) = some ns := e
        cases q : boolsOf ds with
        | none => rw [q] at e'; cases e'
        | some ms =>
          rw [q] at e'
          cases e'
          cases h1
          rw [bools_of h2 q]
          rfl
      | _ => cases e
theorem strs_of {K : PySem.W.Frag} {H : Hp} : ∀ {ds : List D} {vs : List V} {ns : List Str}, RpA K H vs ds → strsOf ds = some ns → vs = ns.map V.str ∧ ∀ x ∈ ns, PyData.strOk x = true
  | [], _, _, h, e => by cases h; cases e; exact ⟨rfl, fun _ z => nomatch z⟩
  | d :: ds, _, ns, h, e => by
    cases h with
    | cons h1 h2 =>
      cases d with
      | str i =>
        have e' : (strsOf ds).map (i :: ·) = some ns := e
        cases q : strsOf ds with
        | none => rw [q] at e'; cases e'
        | some ms =>
          rw [q] at e'
          cases e'
          cases h1 with
          | str _ l1 l2 =>
            obtain ⟨z1, z2⟩ := strs_of h2 q
            rw [z1]
            refine ⟨rfl, fun x hx => ?_⟩
            rcases List.mem_cons.mp hx with rfl | hx
            · exact l2
            · exact z2 x hx
      | _ => cases e
theorem maxL_ge : ∀ (r : List Int) (m : Int), m ≤ maxL m r ∧ ∀ y ∈ r, y ≤ maxL m r
  | [], m => ⟨Int.le_refl _, fun _ h => nomatch h⟩
  | x :: r, m => by
    show m ≤ maxL (if x > m then x else m) r ∧ ∀ y ∈ x :: r, y ≤ maxL (if x > m then x else m) r
    by_cases c : x > m
    · rw [if_pos c]
      obtain ⟨h1, h2⟩ := maxL_ge r x
      refine ⟨by omega, fun y hy => ?_⟩
      rcases List.mem_cons.mp hy with rfl | hy
      · exact h1
      · exact h2 y hy
    · rw [if_neg c]
      obtain ⟨h1, h2⟩ := maxL_ge r m
      refine ⟨h1, fun y hy => ?_⟩
      rcases List.mem_cons.mp hy with rfl | hy
      · omega
      · exact h2 y hy
theorem maxL_mem : ∀ (r : List Int) (m : Int), maxL m r ∈ m :: r
  | [], m => List.mem_cons_self
  | x :: r, m => by
    have h := maxL_mem r (if x > m then x else m)
    show maxL (if x > m then x else m) r ∈ m :: x :: r
    rcases List.mem_cons.mp h with h | h
    · rw [h]
      split
      · exact List.mem_cons_of_mem _ List.mem_cons_self
      · exact List.mem_cons_self
    · exact List.mem_cons_of_mem _ (List.mem_cons_of_mem _ h)
theorem minL_le : ∀ (r : List Int) (m : Int), minL m r ≤ m ∧ ∀ y ∈ r, minL m r ≤ y
  | [], m => ⟨Int.le_refl _, fun _ h => nomatch h⟩
  | x :: r, m => by
    show minL (if x < m then x else m) r ≤ m ∧ ∀ y ∈ x :: r, minL (if x < m then x else m) r ≤ y
    by_cases c : x < m
    · rw [if_pos c]
      obtain ⟨h1, h2⟩ := minL_le r x
      refine ⟨by omega, fun y hy => ?_⟩
      rcases List.mem_cons.mp hy with rfl | hy
      · exact h1
      · exact h2 y hy
    · rw [if_neg c]
      obtain ⟨h1, h2⟩ := minL_le r m
      refine ⟨h1, fun y hy => ?_⟩
      rcases List.mem_cons.mp hy with rfl | hy
      · omega
      · exact h2 y hy
theorem minL_mem : ∀ (r : List Int) (m : Int), minL m r ∈ m :: r
  | [], m => List.mem_cons_self
  | x :: r, m => by
    have h := minL_mem r (if x < m then x else m)
    show minL (if x < m then x else m) r ∈ m :: x :: r
    rcases List.mem_cons.mp h with h | h
    · rw [h]
      split
      · exact List.mem_cons_of_mem _ List.mem_cons_self
      · exact List.mem_cons_self
    · exact List.mem_cons_of_mem _ (List.mem_cons_of_mem _ h)
def biV : BI → Value
  | .len => .builtin "len"
  | .abs => .builtin "abs"
  | .max => .builtin "max"
  | .min => .builtin "min"
  | .int => .type "int"
  | .str => .type "str"
  | .repr => .builtin "repr"
  | .sum => .builtin "sum"
  | .all => .builtin "all"
  | .any => .builtin "any"
  | .list => .type "list"
  | .tuple => .type "tuple"
  | .sorted => .builtin "sorted"
def biN : BI → Str
  | .len => "len"
  | .abs => "abs"
  | .max => "max"
  | .min => "min"
  | .int => "int"
  | .str => "str"
  | .repr => "repr"
  | .sum => "sum"
  | .all => "all"
  | .any => "any"
  | .list => "list"
  | .tuple => "tuple"
  | .sorted => "sorted"
/-! ### texts of signs that are -/
def okT (x : Str) : Prop := ∀ c ∈ x.cps.toList, c < 0x110000
theorem okT_of {x : Str} (h : PyData.strOk x = true) : okT x := fun c hc => by
  unfold PyData.strOk at h
  rw [← Array.all_toList, List.all_eq_true] at h
  exact of_decide_eq_true (h c hc)
theorem strOk_of {x : Str} (h : okT x) : PyData.strOk x = true := by
  unfold PyData.strOk
  rw [← Array.all_toList, List.all_eq_true]
  exact fun c hc => decide_eq_true (h c hc)
theorem okT_app {a b : Str} (h : okT a) (g : okT b) : okT (a ++ b) := fun c hc => by
  have hc : c ∈ (a.cps ++ b.cps).toList := hc
  rw [Array.toList_append] at hc
  rcases List.mem_append.mp hc with hc | hc
  · exact h c hc
  · exact g c hc
theorem char_lt (c : Char) : c.toNat < 0x110000 := by
  have h := c.valid
  rcases h with h | ⟨_, h⟩
  · have : c.toNat < 0xd800 := h
    omega
  · exact h
theorem okT_str (x : String) : okT (Str.ofString x) := fun c hc => by
  rw [PyProof.Rows.signs_ofString] at hc
  obtain ⟨d, _, rfl⟩ := List.mem_map.mp hc
  exact char_lt d
theorem repr_char_ok (q c : Nat) (hc : c < 0x110000) : ∀ d ∈ Builtin.Str.reprChar q c, d < 0x110000 := by
  have hx : ∀ (w : Nat) d, d ∈ List.replicate (w - ((Nat.toDigits 16 c).map Char.toNat).length) 48 ++ (Nat.toDigits 16 c).map Char.toNat → d < 0x110000 := fun w d hd => by
    rcases List.mem_append.mp hd with hd | hd
    · rw [(List.mem_replicate.mp hd).2]; decide
    · obtain ⟨z, _, rfl⟩ := List.mem_map.mp hd
      exact char_lt z
  intro d hd
  unfold Builtin.Str.reprChar at hd
  dsimp only at hd
  split at hd
  · simp only [List.mem_cons, List.not_mem_nil, or_false] at hd; omega
  split at hd
  · simp only [List.mem_cons, List.not_mem_nil, or_false] at hd; omega
  split at hd
  · simp only [List.mem_cons, List.not_mem_nil, or_false] at hd; omega
  split at hd
  · simp only [List.mem_cons, List.not_mem_nil, or_false] at hd; omega
  split at hd
  · simp only [List.mem_cons, List.not_mem_nil, or_false] at hd; omega
  split at hd
  · rcases List.mem_append.mp hd with hd | hd
    · simp only [List.mem_cons, List.not_mem_nil, or_false] at hd; omega
    · exact hx 2 d hd
  split at hd
  · rcases List.mem_append.mp hd with hd | hd
    · simp only [List.mem_cons, List.not_mem_nil, or_false] at hd; omega
    · exact hx 4 d hd
  · rcases List.mem_append.mp hd with hd | hd
    · simp only [List.mem_cons, List.not_mem_nil, or_false] at hd; omega
    · exact hx 8 d hd
theorem fold_ok (q : Nat) : ∀ (l : List Nat) (acc : Array Nat), (∀ c ∈ l, c < 0x110000) → (∀ d ∈ acc.toList, d < 0x110000) → ∀ d ∈ (l.foldl (fun out c => out ++ (Builtin.Str.reprChar q c).toArray) acc).toList, d < 0x110000
  | [], acc, _, h => h
  | c :: r, acc, h, g => by
    refine fold_ok q r _ (fun d hd => h d (List.mem_cons_of_mem _ hd)) fun d hd => ?_
    rw [Array.toList_append] at hd
    rcases List.mem_append.mp hd with hd | hd
    · exact g d hd
    · exact repr_char_ok q c (h c List.mem_cons_self) d (by simpa using hd)
theorem okT_repr {x : Str} (h : okT x) : okT (reprText x) := fun c hc => by
  have hq : reprQuote x < 0x110000 := by unfold reprQuote; split <;> decide
  unfold reprText at hc
  rw [Array.toList_push, ← Array.foldl_toList] at hc
  rcases List.mem_append.mp hc with hc | hc
  · refine fold_ok _ x.cps.toList _ h (fun d hd => ?_) c hc
    have e : d = reprQuote x := by simpa using hd
    omega
  · have e : c = reprQuote x := by simpa using hc
    omega
theorem okT_textFrom : ∀ (ts : List Str) (k : Nat) (acc : Str), okT acc → (∀ t ∈ ts, okT t) → okT (textFrom k acc ts)
  | [], _, _, h, _ => h
  | t :: ts, k, acc, h, g => okT_textFrom ts (k + 1) _ (okT_app (okT_app h (okT_str _)) (g t List.mem_cons_self)) fun u hu => g u (List.mem_cons_of_mem _ hu)
theorem okT_join (sep : Str) (h : okT sep) : ∀ ts : List Str, (∀ t ∈ ts, okT t) → okT (Str.join sep ts)
  | [], _ => okT_str ""
  | [x], g => g x List.mem_cons_self
  | x :: y :: r, g => okT_app (okT_app (g x List.mem_cons_self) h) (okT_join sep h (y :: r) fun t ht => g t (List.mem_cons_of_mem _ ht))
mutual
theorem okT_shown : ∀ d : D, d.canLay0 = true → okT d.shown
  | .none, _ => by simp only [PyData.shown]; exact okT_str _
  | .bool b, _ => by simp only [PyData.shown]; split <;> exact okT_str _
  | .int i, _ => by simp only [PyData.shown]; exact okT_str _
  | .str x, h => by
    simp only [PyData.shown]
    exact okT_repr (okT_of (by simpa only [PyData.canLay0] using h))
  | .list xs, h => by
    simp only [PyData.shown]
    exact okT_app (okT_textFrom _ _ _ (okT_str _) (okT_all xs (by simpa only [PyData.canLay0] using h))) (okT_str _)
  | .tuple xs, h => by
    simp only [PyData.shown]
    exact okT_app (okT_app (okT_str _) (okT_join _ (okT_str _) _ (okT_all xs (by simpa only [PyData.canLay0] using h)))) (okT_str _)
  | .dict _, h => by simp [PyData.canLay0] at h
theorem okT_all : ∀ ds : List D, PyData.canLayAll0 ds = true → ∀ t ∈ PyData.shownAll ds, okT t
  | [], _, t, ht => by simp [PyData.shownAll] at ht
  | d :: ds, h, t, ht => by
    simp only [PyData.canLayAll0, Bool.and_eq_true] at h
    simp only [PyData.shownAll, List.mem_cons] at ht
    rcases ht with rfl | ht
    · exact okT_shown d h.1
    · exact okT_all ds h.2 t ht
end
section
variable {X : Cx} {S : SA}
theorem repr_ok (hA : X.A.guards = some []) (hu : X.A.units + 200 < cLine) {pins : List (Addr × Obj)} {s : Shared} {σ : L2.St} {H : Hp} {x : V} {v : Value} {d : D} {Q : VK} (I : Inv X pins σ H s) (rx : RelV x v) (r : Rp X.K H x d)
    (h1 : d.showable = true) (h2 : d.depth ≤ 64) (h3 : d.hasDict = false) (h4 : d.shown.length ≤ sizeLine) (q : Q (.str d.shown) H) :
    wpAny (model X.prog X.w) X.A (call (.builtin "repr") [v]) (EP X pins σ Q) X.xe s := by
  obtain ⟨as, rd⟩ := Dp.reads I d x v r.dp rx
  have fin : ∀ (h' : Heap) (u : Tok) (tk : Nat), (∀ b o, s.heap.get? b = some o → h'.get? b = some o) → EP X pins σ Q (.str d.shown u) { s with heap := h', toks := tk } :=
    fun h' u tk k => ⟨.str _, H, I.kept (t' := tk) k, ⟨_, rfl⟩, q⟩
  cases r with
  | non =>
    cases rx
    refine PySem.P.repr_of_none ?_
    simp only [PyData.shown] at fin
    exact fin s.heap _ _ fun _ _ e => e
  | bl b =>
    cases rx
    refine PySem.P.repr_of_bool ?_
    simp only [PyData.shown] at fin
    exact fin s.heap _ _ fun _ _ e => e
  | int i =>
    obtain ⟨t, rfl⟩ := rx
    refine PySem.P.repr_of_int (by simpa [PyData.showable] using h1) ?_
    simp only [PyData.shown] at fin
    exact fin s.heap _ _ fun _ _ e => e
  | str y l1 l2 =>
    obtain ⟨t, rfl⟩ := rx
    simp only [PyData.shown] at fin h4
    exact PySem.P.repr_of_str (fin s.heap _ _ fun _ _ e => e) h4
  | lst e1 e2 =>
    cases rx
    exact repr_of_reads' rd h1 (PyData.noDict_hsm h3) hA (by omega) (fun _ _ e => e) fin h4
  | tup e1 e2 =>
    cases rx
    exact repr_of_reads' rd h1 (PyData.noDict_hsm h3) hA (by omega) (fun _ _ e => e) fin h4
theorem bi_ok (hA : X.A.guards = some []) (hc : X.calm = true) (hu : X.A.units + 200 < cLine) (b : BI) : CallR X (biV b) (rVn X.K S (biF b)) := by
  intro pins s σ H us vs Q I ru h
  obtain ⟨O, Ha, xs, k, z, hO, hx, e, q⟩ := h
  generalize hxs : xs.map (·.2) = ds at e
  unfold biF at e
  split at e
  · cases e
    obtain ⟨u, k1, rfl, r⟩ := vrs1 hx hxs
    obtain ⟨a, ws, rfl, ea, ra⟩ := r.list
    refine call_len_seq pins s σ H _ vs Q I ru ⟨_, _, rfl, .inl (.of ea), ?_⟩
    rw [ra.len]
    exact q _ _ (Same.refl _) (Rp.int _)
  · cases e
    obtain ⟨u, k1, rfl, r⟩ := vrs1 hx hxs
    obtain ⟨a, ws, rfl, ea, ra⟩ := r.tuple
    refine call_len_seq pins s σ H _ vs Q I ru ⟨_, _, rfl, .inr ea, ?_⟩
    rw [ra.len]
    exact q _ _ (Same.refl _) (Rp.int _)
  · cases e
    obtain ⟨u, k1, rfl, r⟩ := vrs1 hx hxs
    obtain ⟨rfl, l1, l2⟩ := r.str
    exact call_len_str pins s σ H _ vs Q I ru ⟨_, rfl, l1, q _ _ (Same.refl _) (Rp.int _)⟩
  · cases e
    obtain ⟨u, k1, rfl, r⟩ := vrs1 hx hxs
    obtain rfl := r.int
    exact call_abs pins s σ H _ vs Q I ru ⟨_, rfl, q _ _ (Same.refl _) (Rp.int _)⟩
  · cases e
    obtain ⟨u, u', k1, k2, rfl, r, r'⟩ := vrs2 hx hxs
    obtain rfl := r.int; obtain rfl := r'.int
    exact call_max2 hc pins s σ H _ vs Q I ru ⟨_, _, rfl, q _ _ (Same.refl _) (Rp.int _)⟩
  · cases e
    obtain ⟨u, u', k1, k2, rfl, r, r'⟩ := vrs2 hx hxs
    obtain rfl := r.int; obtain rfl := r'.int
    exact call_min2 hc pins s σ H _ vs Q I ru ⟨_, _, rfl, q _ _ (Same.refl _) (Rp.int _)⟩
  · split at e <;> cases e
    rename_i m r e1
    obtain ⟨u, k1, rfl, rr⟩ := vrs1 hx hxs
    obtain ⟨a, ws, rfl, ea, ra⟩ := rr.list
    obtain rfl := ints_of ra e1
    refine cr_max hc pins s σ H _ vs Q I ru ⟨_, _, rfl, .of ea, Nat.zero_lt_succ _, fun m' hm hl => ?_⟩
    have e2 : m' = maxL m r := by
      have h1 := hl _ (maxL_mem r m)
      have h2 : m' ≤ maxL m r := by
        rcases List.mem_cons.mp hm with rfl | hm
        · exact (maxL_ge r m').1
        · exact (maxL_ge r m).2 _ hm
      omega
    subst e2
    exact q _ _ (Same.refl _) (Rp.int _)
  · split at e <;> cases e
    rename_i m r e1
    obtain ⟨u, k1, rfl, rr⟩ := vrs1 hx hxs
    obtain ⟨a, ws, rfl, ea, ra⟩ := rr.list
    obtain rfl := ints_of ra e1
    refine cr_min hc pins s σ H _ vs Q I ru ⟨_, _, rfl, .of ea, Nat.zero_lt_succ _, fun m' hm hl => ?_⟩
    have e2 : m' = minL m r := by
      have h1 := hl _ (minL_mem r m)
      have h2 : minL m r ≤ m' := by
        rcases List.mem_cons.mp hm with rfl | hm
        · exact (minL_le r m').1
        · exact (minL_le r m).2 _ hm
      omega
    subst e2
    exact q _ _ (Same.refl _) (Rp.int _)
  · cases e
    obtain ⟨u, k1, rfl, r⟩ := vrs1 hx hxs
    obtain rfl := r.int
    exact call_int1 pins s σ H _ vs Q I ru (.inl ⟨_, rfl, q _ _ (Same.refl _) (Rp.int _)⟩)
  · cases e
    obtain ⟨u, k1, rfl, r⟩ := vrs1 hx hxs
    obtain rfl := r.bool
    exact call_int1 pins s σ H _ vs Q I ru (.inr ⟨_, rfl, q _ _ (Same.refl _) (Rp.int _)⟩)
  · obtain ⟨ns, e1, e2⟩ := Option.map_eq_some_iff.mp e
    cases e2
    obtain ⟨u, k1, rfl, rr⟩ := vrs1 hx hxs
    obtain ⟨a, ws, rfl, ea, ra⟩ := rr.list
    obtain rfl := ints_of ra e1
    exact cr_sum hc pins s σ H _ vs Q I ru ⟨_, _, rfl, .of ea, q _ _ (Same.refl _) (Rp.int _)⟩
  · obtain ⟨ns, e1, e2⟩ := Option.map_eq_some_iff.mp e
    cases e2
    obtain ⟨u, k1, rfl, rr⟩ := vrs1 hx hxs
    obtain ⟨a, ws, rfl, ea, ra⟩ := rr.list
    obtain rfl := bools_of ra e1
    exact cr_all hc pins s σ H _ vs Q I ru ⟨_, _, rfl, .of ea, q _ _ (Same.refl _) (Rp.bl _)⟩
  · obtain ⟨ns, e1, e2⟩ := Option.map_eq_some_iff.mp e
    cases e2
    obtain ⟨u, k1, rfl, rr⟩ := vrs1 hx hxs
    obtain ⟨a, ws, rfl, ea, ra⟩ := rr.list
    obtain rfl := bools_of ra e1
    exact cr_any hc pins s σ H _ vs Q I ru ⟨_, _, rfl, .of ea, q _ _ (Same.refl _) (Rp.bl _)⟩
  · obtain ⟨ns, e1, e2⟩ := Option.map_eq_some_iff.mp e
    cases e2
    obtain ⟨u, k1, rfl, rr⟩ := vrs1 hx hxs
    unfold itemsOf at e1
    split at e1 <;> cases e1
    · obtain ⟨a, ws, rfl, ea, ra⟩ := rr.list
      exact call_list_of pins s σ H _ vs Q I ru ⟨_, _, rfl, .inl (.of ea), fun l hl => q _ _ (same_new hl) (new_lst hO hl ra)⟩
    · obtain ⟨a, ws, rfl, ea, ra⟩ := rr.tuple
      exact call_list_of pins s σ H _ vs Q I ru ⟨_, _, rfl, .inr ea, fun l hl => q _ _ (same_new hl) (new_lst hO hl ra)⟩
  · obtain ⟨ns, e1, e2⟩ := Option.map_eq_some_iff.mp e
    cases e2
    obtain ⟨u, k1, rfl, rr⟩ := vrs1 hx hxs
    unfold itemsOf at e1
    split at e1 <;> cases e1
    · obtain ⟨a, ws, rfl, ea, ra⟩ := rr.list
      exact call_tuple_of pins s σ H _ vs Q I ru ⟨_, _, rfl, .inl ⟨.of ea, fun l hl => q _ _ (same_new hl) (new_tup hO hl ra)⟩⟩
    · have f := rr.tupleF
      obtain ⟨a, ws, rfl, ea, ra⟩ := rr.tuple
      exact call_tuple_of pins s σ H _ vs Q I ru ⟨_, _, rfl, .inr ⟨ea, q _ _ (Same.refl _) f⟩⟩
  · split at e <;> cases e
    rename_i h
    obtain ⟨u, k1, rfl, r⟩ := vrs1 hx hxs
    obtain ⟨v, rfl, rv⟩ := vals1 ru
    refine repr_ok hA hu I rv r.rp h.1 h.2.1 h.2.2.1 h.2.2.2 (q _ _ (Same.refl _) (Rp.str _ h.2.2.2 (strOk_of (okT_shown _ r.rp.lay))))
  · split at e <;> cases e
    obtain ⟨u, k1, rfl, r⟩ := vrs1 hx hxs
    obtain rfl := r.int
    exact call_str_int pins s σ H _ vs Q I ru ⟨_, rfl, by assumption, q _ _ (Same.refl _) (Rp.str _ (int_text_fits (by assumption)) (strOk_of (okT_str _)))⟩
  · cases e
end
end Tre
/-! Tre5: expressions. -/
namespace Tre
open PySem PySem.Spec PyProof.Rows L2

/-- what a def that the evaluator knows promises -/
def spF (ts : List (Addr × Str)) (Xn : XT) (K : PySem.W.Frag) (F : List Arg → Src → R (Bool × D)) : Sp := fun vs H Q E => ∃ (S : SA) (O : Addr → Prop) (xs : List Arg) (s : Src), S.ts = ts ∧ (∀ b, S.Out b → O b) ∧ (∀ a, O a → H a ≠ none) ∧ SrcR S H s ∧ AR K S O H vs xs ∧
  RQ (F xs s) (fun r s' => ∀ v H', Ex S H H' → SrcR S H' s' → VR K S O H H' (if r.1 then .own else .frz) v r.2 → Q v H') fun c a s' => ∀ H' cls d, Ex S H H' → SrcR S H' s' → XR K Xn H' c a cls d → E cls d H'

def bltNames : List Str := ["len", "abs", "max", "min", "int", "str", "repr", "sum", "all", "any", "list", "tuple", "sorted", "isinstance", "range", "enumerate", "zip", "reversed", "bool", "dict"]
/-- an own exception is made: its values stand under its fields -/
def XcOk (C : Cf) (X : Cx) (c : Nat) (x : Str) (ar : Nat) : Prop := ∃ Cc fs, C.Xn c = some (Cc, fs) ∧ fs.length = ar ∧ ∀ (ta : TA) (e : Expr) (es : List Expr) (p pos : Pos), Gl X x → PA X (e :: es) ta → (e :: es).length = ar →
  starEach (e :: es) X.env = (false, eval e X.env) :: starEach es X.env → (backTo pos (starEach es X.env)).any (·.1) = false →
  PMk X (.Call (.Name x p) (e :: es) [] pos) (fun σ H Q => ta σ H fun vs H1 => vs.length = ar ∧ vs.length ≤ 1000 ∧ ∀ d, H1 d = none → Q (.ref Cc) (some d) (upd H1 d (.xd (fs.zip vs.reverse))))
/-- where a body stands -/
structure HX (C : Cf) (k : Nat) (fns cns : List Str) (X : Cx) : Prop where
  nd : X.N.Nodup
  calm : X.calm = true
  guards : X.A.guards = some []
  room : Room k X.A
  blt : ∀ x ∈ bltNames, X.mg x = none
  fn : ∀ (f : Nat) (x : Str), fns[f]? = some x → ∃ (a : Addr) (fd : FuncData) (ps : List Str), X.mg x = some (.ref a) ∧ PySem.W.keepIn X.K (.ref a) = true ∧ Binds X.K fd ps [] ∧
    FnG X.prog X.w X.K X.mg X.base (L2.CX X.prog X.w) k a fd ps (spF C.ts C.Xn X.K (C.Φ f))
  cn : ∀ (i : Nat) (x : Str) (d : D), cns[i]? = some x → C.G i = some d → ∃ u v, X.mg x = some u ∧ RelV v u ∧ Rp X.K (fun _ => none) v d

section
variable {C : Cf} {k : Nat} {fns cns : List Str} {X : Cx} {B : Bx} {W : WX}
theorem HX.units (hx : HX C k fns cns X) : X.A.units + 200 < cLine := by
  have := hx.room.un
  omega
/-- an expression's judgement -/
structure JE (C : Cf) (X : Cx) (B : Bx) (W : WX) (x : Expr) (t : T) : Prop where
  e : PE X x (tE C X.K B W t)
  t : PT X x (tT C X.K B W t)
/-- .. of and, or -/
structure JW (C : Cf) (X : Cx) (B : Bx) (W : WX) (x : Expr) (t : T) : Prop where
  e : PE X x (tE C X.K B W t)
  w : PW X x (tT C X.K B W t)
theorem JW.je {e : Expr} {t : T} (h : JW C X B W e t) : JE C X B W e t := ⟨h.e, h.w.pt⟩

theorem isEmpty_rp {K : PySem.W.Frag} {H : Hp} {vs : List V} {ds : List D} (h : RpA K H vs ds) : vs.isEmpty = ds.isEmpty := by cases h <;> rfl
theorem tru_of {K : PySem.W.Frag} {H : Hp} {v : V} {d : D} (h : Rp K H v d) : TruV K v H (truth d) := by
  cases h with
  | non => rfl
  | bl b => rfl
  | int i => rfl
  | str x h1 h2 => exact ⟨h1, rfl⟩
  | lst h1 h2 => exact .inl ⟨_, .of h1, by rw [isEmpty_rp h2] <;> rfl⟩
  | tup h1 h2 => exact .inr (.inl ⟨_, h1, by rw [isEmpty_rp h2] <;> rfl⟩)
/-- a value as a test -/
theorem pt_of {e : Expr} {t : T} (h : PE X e (tE C X.K B W t)) (he : ∀ whole, isTrue e X.env whole = (do let v ← whole; standAt e.pos; holding [v] (truthy v))) : PT X e (tT C X.K B W t) := by
  refine (pt_truth h he).weak fun σ H Q => ?_
  rintro ⟨env, s, O, r, q, h⟩
  exact ⟨env, s, O, r, q, h.mono (fun x s1 h1 v H1 e1 q1 v1 => ⟨_, tru_of v1.rp, h1 H1 e1 q1⟩) fun _ _ _ z => z⟩
theorem JE.of {e : Expr} {t : T} (h : PE X e (tE C X.K B W t)) (he : ∀ whole, isTrue e X.env whole = (do let v ← whole; standAt e.pos; holding [v] (truthy v)) := by intro _; rfl) : JE C X B W e t := ⟨h, pt_of h he⟩

/-! ### names and constants -/
theorem je_int {i : Int} {j : Nat} {pos : Pos} : JE C X B W (.Constant (.int i) j pos) (.c (.int i)) := by
  refine .of (pe_int.weak fun σ H Q => ?_)
  rintro ⟨env, s, O, r, q, h⟩
  exact h _ _ (Ex.refl _ _) q (Rp.int i)
theorem je_bl {b : Bool} {j : Nat} {pos : Pos} : JE C X B W (.Constant (.bool b) j pos) (.c (.bool b)) := by
  refine .of (pe_bl.weak fun σ H Q => ?_)
  rintro ⟨env, s, O, r, q, h⟩
  exact h _ _ (Ex.refl _ _) q (Rp.bl b)
theorem je_non {j : Nat} {pos : Pos} : JE C X B W (.Constant .none j pos) (.c .none) := by
  refine .of (pe_non.weak fun σ H Q => ?_)
  rintro ⟨env, s, O, r, q, h⟩
  exact h _ _ (Ex.refl _ _) q Rp.non
theorem je_str {x : Str} {j : Nat} {pos : Pos} (h1 : x.length ≤ sizeLine) (h2 : PyData.strOk x = true) : JE C X B W (.Constant (.str x) j pos) (.c (.str x)) := by
  refine .of (pe_str.weak fun σ H Q => ?_)
  rintro ⟨env, s, O, r, q, h⟩
  exact h _ _ (Ex.refl _ _) q (Rp.str x h1 h2)
theorem je_v {i : Nat} {x : Str} {pos : Pos} (hN : X.N[i]? = some x) (hv : Vis X.env.scope x) (hd : (x == ("__debug__" : Str)) = false) (hcd : (x == ("__classdict__" : Str)) = false) : JE C X B W (.Name x pos) (.v i) := by
  refine .of ((pe_var hN hv hd hcd).weak fun σ H Q => ?_)
  rintro ⟨env, s, O, r, q, h⟩
  unfold evE at h
  cases e1 : env[i]? with
  | none => rw [e1] at h; exact h.elim
  | some sl =>
    rw [e1] at h
    have hi : i < σ.length := by
      rw [← r.len]
      exact (List.getElem?_eq_some_iff.mp e1).1
    have e2 : σ[i]? = some σ[i] := List.getElem?_eq_getElem hi
    have so := r.slots i sl _ e1 e2
    cases sl with
    | e => exact h.elim
    | src => exact h.elim
    | d o x =>
      cases o with
      | false =>
        obtain ⟨v, e3, p⟩ := so
        exact ⟨v, by rw [e2, e3], h v H (Ex.refl _ _) q p⟩
      | true =>
        obtain ⟨a, vs, ds, e3, rfl, p1, p2, p3, p4, p5⟩ := so
        exact ⟨_, by rw [e2, e3], h _ H (Ex.refl _ _) q ⟨a, vs, ds, rfl, rfl, p1, p2, r.nO0 p4⟩⟩
theorem je_g (hx : HX C k fns cns X) {i : Nat} {x : Str} {pos : Pos} (hi : cns[i]? = some x) (hg : Gl X x) (hd : (x == ("__debug__" : Str)) = false) : JE C X B W (.Name x pos) (.g i) := by
  cases e : C.G i with
  | none =>
    refine .of ⟨fun pins s σ H Q I h => ?_⟩
    obtain ⟨env, s, O, r, q, h⟩ := h
    unfold evE at h
    rw [e] at h
    exact h.elim
  | some d =>
    obtain ⟨u, v, hm, rv, rp⟩ := hx.cn i x d hi e
    refine .of ((pe_glob hg hm rv hd).weak fun σ H Q => ?_)
    rintro ⟨env, s, O, r, q, h⟩
    unfold evE at h
    rw [e] at h
    exact h v H (Ex.refl _ _) q (rp.mono fun _ o z => nomatch (show (none : Option HO) = some o from z))

/-! ### operators -/
variable {a b c : Expr} {ta tb tc : T} {pos : Pos}
theorem Ex.same {S : SA} {H H1 H2 : Hp} (e : Ex S H H1) (m : Same H1 H2) : Ex S H H2 := e.trans (.of m)
theorem je_op (o : Operator) (ha : JE C X B W a ta) (hb : JE C X B W b tb) : JE C X B W (.BinOp a o b pos) (.op o ta tb) := by
  refine .of ((pe_op (op_ok (S := B.S) o) ha.e hb.e).weak fun σ H Q => ?_)
  rintro ⟨env, s, O, r, q, h⟩
  unfold evE at h
  refine eTwo r q (h.bind.mono (fun x s1 h1 => h1.bind.mono (fun y s2 h2 => ?_) fun _ _ _ z => z) fun _ _ _ z => z)
  obtain ⟨⟨kd, z⟩, e, h3⟩ := h2.of
  intro u w H2 e2 q2 v1 v2
  exact ⟨O, H, x.1, y.1, x.2, y.2, kd, z, (r.ext e2 q2).dom, v1, v2, e, fun v H' m vr => h3 v H' (e2.same m) (q2.same m) (VR.back (H1 := H2) vr e2 q2)⟩
theorem two_cmp (hx : HX C k fns cns X) (o : CmpOp) {σ : L2.St} {H : Hp} {P : Bool → Hp → Prop} {env : Env} {s : Src} {O : Addr → Prop} (r : B.Rl X.K O env σ H) (q : SrcR B.S H s)
    (h : RQ (evE C.Φ C.G (.cmp o ta tb) env s) (fun x s' => ∀ H', Ex B.S H H' → SrcR B.S H' s' → P (truth x.2) H') (wX C X.K B W σ H)) :
    tOp (rC2 X.K B.S (cmpF o)) (tE C X.K B W ta) (tE C X.K B W tb) σ H fun x H1 => ∃ b, x = .bl b ∧ P b H1 := by
  unfold evE at h
  refine eTwo r q (h.bind.mono (fun x s1 h1 => h1.bind.mono (fun y s2 h2 => ?_) fun _ _ _ z => z) fun _ _ _ z => z)
  obtain ⟨z, e, h3⟩ := h2.of
  obtain ⟨k, e1, e2⟩ := Option.map_eq_some_iff.mp e
  subst e2
  intro u w H2 e2 q2 v1 v2
  exact ⟨O, H, x.1, y.1, x.2, y.2, k, v1, v2, e1, k, rfl, h3 H2 e2 q2⟩
theorem je_cmp (hx : HX C k fns cns X) (o : CmpOp) (ha : JE C X B W a ta) (hb : JE C X B W b tb) (hm : behindInMarks o b = false) : JE C X B W (.Compare a [o] [b] pos) (.cmp o ta tb) := by
  constructor
  · refine (pe_cmpR (cmp_ok (S := B.S) hx.units o) ha.e hb.e hm).weak fun σ H Q => ?_
    rintro ⟨env, s, O, r, q, h⟩
    unfold evE at h
    refine eTwo r q (h.bind.mono (fun x s1 h1 => h1.bind.mono (fun y s2 h2 => ?_) fun _ _ _ z => z) fun _ _ _ z => z)
    obtain ⟨z, e, h3⟩ := h2.of
    obtain ⟨k, e1, e2⟩ := Option.map_eq_some_iff.mp e
    subst e2
    intro u w H2 e2 q2 v1 v2
    exact ⟨O, H, x.1, y.1, x.2, y.2, k, v1, v2, e1, h3 _ H2 e2 q2 (Rp.bl k)⟩
  · refine (pt_cmpR (cmp_ok (S := B.S) hx.units o) ha.e hb.e hm).weak fun σ H Q => ?_
    rintro ⟨env, s, O, r, q, h⟩
    exact two_cmp hx o r q h
theorem je_cmp2 (hx : HX C k fns cns X) (o o' : CmpOp) (ha : JE C X B W a ta) (hb : JE C X B W b tb) (hc : JE C X B W c tc) (hm : lastMarks [o, o'] [b, c] = false) : JE C X B W (.Compare a [o, o'] [b, c] pos) (.cmp2 o o' ta tb tc) := by
  have key : ∀ (P : D → Hp → Prop) (σ : L2.St) (H : Hp) (env : Env) (s : Src) (O : Addr → Prop), B.Rl X.K O env σ H → SrcR B.S H s →
      RQ (evE C.Φ C.G (.cmp2 o o' ta tb tc) env s) (fun x s' => ∀ b H', x = (.frz, .bool b) → Ex B.S H H' → SrcR B.S H' s' → P (.bool b) H') (wX C X.K B W σ H) →
      tChain (rC2 X.K B.S (cmpF o)) (rC2 X.K B.S (cmpF o')) (tE C X.K B W ta) (tE C X.K B W tb) (tE C X.K B W tc) σ H fun x H1 => ∃ b, x = .bl b ∧ P (.bool b) H1 := by
    intro P σ H env s O r q h
    unfold evE at h
    refine eTwo r q (h.bind.mono (fun x s1 h1 => h1.bind.mono (fun y s2 h2 => ?_) fun _ _ _ z => z) fun _ _ _ z => z)
    obtain ⟨kb, e, h3⟩ := h2.bind.of
    intro u w H2 e2 q2 v1 v2
    refine ⟨O, H, x.1, y.1, x.2, y.2, kb, v1, v2, e, kb, rfl, ?_⟩
    cases kb with
    | false =>
      rw [if_neg Bool.false_ne_true]
      rw [if_neg Bool.false_ne_true] at h3
      exact ⟨_, rfl, h3 false H2 rfl e2 q2⟩
    | true =>
      rw [if_pos rfl]
      rw [if_pos rfl] at h3
      refine eOne (r.ext e2 q2) q2 (h3.bind.mono (fun z s4 h4 => ?_) fun c a s' z => wX.ext (s1 := s2) e2 z)
      obtain ⟨z', e5, h5⟩ := h4.of
      obtain ⟨k', e6, e7⟩ := Option.map_eq_some_iff.mp e5
      subst e7
      intro t H4 e4 q4 v4
      exact ⟨O, H, y.1, z.1, y.2, z.2, k', v2.ext r e2 q2 e4 q4, v4.back e2 q2, e6, k', rfl, h5 k' H4 rfl (e2.trans e4) q4⟩
  constructor
  · refine (pe_chain (cmp_ok (S := B.S) hx.units o) (cmp_ok (S := B.S) hx.units o') ha.e hb.e hc.e hm).weak fun σ H Q => ?_
    rintro ⟨env, s, O, r, q, h⟩
    have := key (fun d H' => ∀ v, Rp X.K H' v d → Q v H') σ H env s O r q (h.mono (fun x s' h1 b H' ex e' q' v rv => by subst ex; exact h1 v H' e' q' (by cases rv; exact Rp.bl b)) fun _ _ _ z => z)
    obtain ⟨env', s', O', r', q', h'⟩ := this
    refine ⟨env', s', O', r', q', h'.mono (fun x s1 h1 u H1 e1 q1 v1 => ?_) fun _ _ _ z => z⟩
    obtain ⟨env2, s2, O2, r2, q2, h2⟩ := h1 u H1 e1 q1 v1
    refine ⟨env2, s2, O2, r2, q2, h2.mono (fun y s3 h3 w H2 e2 q3 v2 => ?_) fun _ _ _ z => z⟩
    obtain ⟨A1, A2, A3, A4, A5, A6, A7, a1, a2, a3, kk, a4, a5⟩ := h3 w H2 e2 q3 v2
    refine ⟨A1, A2, A3, A4, A5, A6, A7, a1, a2, a3, kk, a4, ?_⟩
    cases kk with
    | false =>
      rw [if_neg Bool.false_ne_true] at a5 ⊢
      obtain ⟨b', eb, a5⟩ := a5
      rw [eb]
      exact a5 _ (Rp.bl b')
    | true =>
      rw [if_pos rfl] at a5 ⊢
      obtain ⟨env4, s4, O4, r4, q4, h4⟩ := a5
      refine ⟨env4, s4, O4, r4, q4, h4.mono (fun z s5 h5 t H4 e4 q5 v4 => ?_) fun _ _ _ z => z⟩
      obtain ⟨B1, B2, B3, B4, B5, B6, B7, b1, b2, b3, b', eb, b4⟩ := h5 t H4 e4 q5 v4
      refine ⟨B1, B2, B3, B4, B5, B6, B7, b1, b2, b3, ?_⟩
      rw [eb]
      exact b4 _ (Rp.bl b')
  · refine (pt_chain (cmp_ok (S := B.S) hx.units o) (cmp_ok (S := B.S) hx.units o') ha.e hb.e hc.e hm).weak fun σ H Q => ?_
    rintro ⟨env, s, O, r, q, h⟩
    exact key (fun d H' => Q (truth d) H') σ H env s O r q (h.mono (fun x s' h1 b H' ex e' q' => by subst ex; exact h1 H' e' q') fun _ _ _ z => z)
theorem jw_bo1 {op : BoolOp} (ha : JE C X B W a ta) : JW C X B W (.BoolOp op [a] pos) ta := by
  refine ⟨pe_one ha.e, ?_⟩
  cases op with
  | And => exact pw_and1 ha.t
  | Or => exact pw_or1 ha.t
theorem jw_and {rest : List Expr} (ha : JE C X B W a ta) (hb : JW C X B W (.BoolOp .And (b :: rest) pos) tb) : JW C X B W (.BoolOp .And (a :: b :: rest) pos) (.and ta tb) := by
  constructor
  · refine (pe_andT ha.e hb.e).weak fun σ H Q => ?_
    rintro ⟨env, s, O, r, q, h⟩
    unfold evE at h
    refine eOne r q (h.bind.mono (fun x s1 h1 => ?_) fun _ _ _ z => z)
    intro u H1 e1 q1 v1
    refine ⟨_, tru_of v1.rp, ?_⟩
    by_cases hk : truth x.2 = true
    · rw [if_pos hk] at h1 ⊢
      exact ⟨env, s1, O, r.ext e1 q1, q1, h1.mono (fun y s2 h2 w H2 e2 q2 v2 => h2 w H2 (e1.trans e2) q2 (v2.back e1 q1)) fun c a s' z => wX.ext (s1 := s1) e1 z⟩
    · rw [if_neg hk] at h1 ⊢
      exact h1 u H1 e1 q1 v1
  · refine ⟨fun wh pins s σ H Q I h => (pw_and ha.t hb.w).run wh pins s σ H Q I ?_⟩
    obtain ⟨env, s, O, r, q, h⟩ := h
    unfold evE at h
    refine ⟨env, s, O, r, q, h.bind.mono (fun x s1 h1 H1 e1 q1 => ?_) fun _ _ _ z => z⟩
    by_cases hk : truth x.2 = true
    · rw [if_pos hk] at h1
      rw [if_pos hk]
      exact ⟨env, s1, O, r.ext e1 q1, q1, h1.mono (fun y s2 h2 H2 e2 q2 => h2 H2 (e1.trans e2) q2) fun c a s' z => wX.ext (s1 := s1) e1 z⟩
    · rw [if_neg hk] at h1
      rw [if_neg hk]
      have := h1 H1 e1 q1
      rwa [Bool.eq_false_iff.mpr hk] at this
theorem jw_or {rest : List Expr} (ha : JE C X B W a ta) (hb : JW C X B W (.BoolOp .Or (b :: rest) pos) tb) : JW C X B W (.BoolOp .Or (a :: b :: rest) pos) (.or ta tb) := by
  constructor
  · refine (pe_orT ha.e hb.e).weak fun σ H Q => ?_
    rintro ⟨env, s, O, r, q, h⟩
    unfold evE at h
    refine eOne r q (h.bind.mono (fun x s1 h1 => ?_) fun _ _ _ z => z)
    intro u H1 e1 q1 v1
    refine ⟨_, tru_of v1.rp, ?_⟩
    by_cases hk : truth x.2 = true
    · rw [if_pos hk] at h1 ⊢
      exact h1 u H1 e1 q1 v1
    · rw [if_neg hk] at h1 ⊢
      exact ⟨env, s1, O, r.ext e1 q1, q1, h1.mono (fun y s2 h2 w H2 e2 q2 v2 => h2 w H2 (e1.trans e2) q2 (v2.back e1 q1)) fun c a s' z => wX.ext (s1 := s1) e1 z⟩
  · refine ⟨fun wh pins s σ H Q I h => (pw_or ha.t hb.w).run wh pins s σ H Q I ?_⟩
    obtain ⟨env, s, O, r, q, h⟩ := h
    unfold evE at h
    refine ⟨env, s, O, r, q, h.bind.mono (fun x s1 h1 H1 e1 q1 => ?_) fun _ _ _ z => z⟩
    by_cases hk : truth x.2 = true
    · rw [if_pos hk] at h1
      rw [if_pos hk]
      have := h1 H1 e1 q1
      rwa [hk] at this
    · rw [if_neg hk] at h1
      rw [if_neg hk]
      exact ⟨env, s1, O, r.ext e1 q1, q1, h1.mono (fun y s2 h2 H2 e2 q2 => h2 H2 (e1.trans e2) q2) fun c a s' z => wX.ext (s1 := s1) e1 z⟩
theorem je_not (ha : JE C X B W a ta) : JE C X B W (.UnaryOp .Not a pos) (.not ta) := by
  constructor
  · refine (pe_notT ha.e).weak fun σ H Q => ?_
    rintro ⟨env, s, O, r, q, h⟩
    unfold evE at h
    refine eOne r q (h.bind.mono (fun x s1 h1 => ?_) fun _ _ _ z => z)
    intro u H1 e1 q1 v1
    exact ⟨_, tru_of v1.rp, h1 _ H1 e1 q1 (Rp.bl _)⟩
  · refine (pt_not ha.t).weak fun σ H Q => ?_
    rintro ⟨env, s, O, r, q, h⟩
    unfold evE at h
    exact ⟨env, s, O, r, q, h.bind.mono (fun x s1 h1 H1 e1 q1 => h1 H1 e1 q1) fun _ _ _ z => z⟩
theorem je_neg (ha : JE C X B W a ta) : JE C X B W (.UnaryOp .USub a pos) (.neg ta) := by
  refine .of ((pe_un un_neg ha.e).weak fun σ H Q => ?_)
  rintro ⟨env, s, O, r, q, h⟩
  unfold evE at h
  refine eOne r q (h.bind.mono (fun x s1 h1 => ?_) fun _ _ _ z => z)
  intro u H1 e1 q1 v1
  obtain ⟨kd, d⟩ := x
  cases d with
  | int i =>
    obtain rfl := v1.int
    exact ⟨i, rfl, h1 _ H1 e1 q1 (Rp.int _)⟩
  | _ => exact h1.elim
theorem je_ife (hc : JE C X B W c tc) (ha : JE C X B W a ta) (hb : JE C X B W b tb) : JE C X B W (.IfExp c a b pos) (.ife tc ta tb) := by
  constructor
  · refine (pe_ifExp hc.t ha.e hb.e).weak fun σ H Q => ?_
    rintro ⟨env, s, O, r, q, h⟩
    unfold evE at h
    refine ⟨env, s, O, r, q, h.bind.mono (fun x s1 h1 H1 e1 q1 => ?_) fun _ _ _ z => z⟩
    by_cases hk : truth x.2 = true
    all_goals
      first | rw [if_pos hk] at h1 ⊢ | rw [if_neg hk] at h1 ⊢
      exact ⟨env, s1, O, r.ext e1 q1, q1, h1.mono (fun y s2 h2 w H2 e2 q2 v2 => h2 w H2 (e1.trans e2) q2 (v2.back e1 q1)) fun c a s' z => wX.ext (s1 := s1) e1 z⟩
  · refine ⟨fun pins s σ H Q I h => ?_⟩
    obtain ⟨env, s', O, r, q, h⟩ := h
    unfold evE at h
    refine isTrue_IfExp (thn (hc.t.run pins s σ H (fun k H1 => if k = true then tT C X.K B W ta σ H1 Q else tT C X.K B W tb σ H1 Q) I ⟨env, s', O, r, q, h.bind.mono (fun x s1 h1 H1 e1 q1 => ?_) fun _ _ _ z => z⟩) fun k s2 h2 => ?_)
    · by_cases hk : truth x.2 = true
      all_goals
        first | rw [if_pos hk] at h1 ⊢ | rw [if_neg hk] at h1 ⊢
        exact ⟨env, s1, O, r.ext e1 q1, q1, h1.mono (fun y s2 h2 H2 e2 q2 => h2 H2 (e1.trans e2) q2) fun c a s' z => wX.ext (s1 := s1) e1 z⟩
    · obtain ⟨H2, I2, h2⟩ := h2
      cases k with
      | true => exact ha.t.run pins s2 σ H2 Q I2 h2
      | false => exact hb.t.run pins s2 σ H2 Q I2 h2
end
end Tre
/-! Tre6: rows of expressions, displays, places, calls. -/
namespace Tre
open PySem PySem.Spec PyProof.Rows L2

def isStar : Expr → Bool
  | .Starred _ _ => true
  | _ => false
theorem star_cons {e : Expr} {es : List Expr} {env : PySem.Env} (h : isStar e = false) : starEach (e :: es) env = (false, eval e env) :: starEach es env := by
  cases e <;> first | rfl | cases h
theorem star_none {env : PySem.Env} : ∀ {es : List Expr}, es.all (fun e => !isStar e) = true → (starEach es env).all (fun x => !x.1) = true
  | [], _ => rfl
  | e :: es, h => by
    simp only [List.all_cons, Bool.and_eq_true, Bool.not_eq_true'] at h
    rw [star_cons h.1, List.all_cons, star_none h.2] <;> rfl
theorem back_none {pos : Pos} {l : List (Bool × Sem Value)} (h : l.all (fun x => !x.1) = true) : (backTo pos l).any (·.1) = false := by
  unfold backTo
  rw [List.any_map]
  rw [List.all_eq_true] at h
  refine List.any_eq_false.mpr fun x hx => ?_
  have := h x hx
  simpa using this
theorem plain_of {es : List Expr} {env : PySem.Env} {pos : Pos} (h : es.all (fun e => !isStar e) = true) : (backTo pos (starEach es env)).any (·.1) = false := back_none (star_none h)

section
variable {C : Cf} {k : Nat} {fns cns : List Str} {X : Cx} {B : Bx} {W : WX}
/-! ### rows -/
theorem ja_nil : PA X [] (tA C X.K B W .nil) := by
  refine pa_nil.weak fun σ H Q => ?_
  rintro ⟨env, s, O, r, q, h⟩
  exact h [] H (Ex.refl _ _) q trivial
theorem ja_cons {e : Expr} {es : List Expr} {t u : T} (he : JE C X B W e t) (hr : PA X es (tA C X.K B W u)) (hs : isStar e = false) : PA X (e :: es) (tA C X.K B W (.cons t u)) := by
  refine (pa_cons he.e hr (star_cons hs)).weak fun σ H Q => ?_
  rintro ⟨env, s, O, r, q, h⟩
  unfold evA at h
  refine eOne r q (h.bind.mono (fun x s1 h1 => ?_) fun _ _ _ z => z)
  intro v H1 e1 q1 v1
  refine ⟨env, s1, O, r.ext e1 q1, q1, h1.bind.mono (fun xs s2 h2 => ?_) fun c a s' z => wX.ext (s1 := s1) e1 z⟩
  intro vs H2 e2 q2 v2
  exact h2 (v :: vs) H2 (e1.trans e2) q2 ⟨v1.ext r e1 q1 e2 q2, v2.back e1 q1⟩
theorem jg_nil : PA X [] (tG C X.K B W .nil) := by
  refine pa_nil.weak fun σ H Q => ?_
  rintro ⟨env, s, O, r, q, h⟩
  exact h [] H (Ex.refl _ _) q trivial r.dom (fun b z => r.sub _ (r.so b z))
theorem jg_cons {e : Expr} {es : List Expr} {t u : T} (he : JE C X B W e t) (hr : PA X es (tG C X.K B W u)) (hs : isStar e = false) : PA X (e :: es) (tG C X.K B W (.cons t u)) := by
  refine (pa_cons he.e hr (star_cons hs)).weak fun σ H Q => ?_
  rintro ⟨env, s, O, r, q, h⟩
  unfold evG at h
  refine eOne r q (h.bind.mono (fun x s1 h1 => ?_) fun _ _ _ z => z)
  intro v H1 e1 q1 v1
  by_cases hk : x.1 = .peek
  · rw [if_pos hk] at h1; exact h1.elim
  rw [if_neg hk] at h1
  refine ⟨env, s1, O, r.ext e1 q1, q1, h1.bind.mono (fun xs s2 h2 => ?_) fun c a s' z => wX.ext (s1 := s1) e1 z⟩
  intro vs H2 e2 q2 v2 d2 z1
  exact h2 (v :: vs) H2 (e1.trans e2) q2 ⟨(v1.frz r.dom hk).mono ((r.ext e1 q1).hid e2), v2⟩ d2 z1
theorem jg_src {i : Nat} {x : Str} {pos : Pos} {es : List Expr} {u : T} (hN : X.N[i]? = some x) (hv : Vis X.env.scope x) (hd : (x == ("__debug__" : Str)) = false) (hcd : (x == ("__classdict__" : Str)) = false)
    (hr : PA X es (tG C X.K B W u)) : PA X (.Name x pos :: es) (tG C X.K B W (.csrc i u)) := by
  refine (pa_cons (pe_var hN hv hd hcd) hr rfl).weak fun σ H Q => ?_
  rintro ⟨env, s, O, r, q, h⟩
  unfold evG at h
  split at h
  · rename_i e1
    have hi : i < σ.length := by
      rw [← r.len]
      exact (List.getElem?_eq_some_iff.mp e1).1
    have e2 : σ[i]? = some σ[i] := List.getElem?_eq_getElem hi
    have so := r.slots i _ _ e1 e2
    refine ⟨_, by rw [e2, show σ[i] = some (.ref B.S.a1) from so], ?_⟩
    refine ⟨env, s, O, r, q, h.bind.mono (fun xs s2 h2 => ?_) fun _ _ _ z => z⟩
    intro vs H2 e2 q2 v2 d2 z1
    exact h2 _ H2 e2 q2 ⟨rfl, v2⟩ d2 z1
  · exact h.elim

/-! ### displays -/
theorem noPeek_ok {K : PySem.W.Frag} {S : SA} {O : Addr → Prop} {Ha H : Hp} (hO : ∀ a, O a → Ha a ≠ none) : ∀ {vs : List V} {xs : List (Kd × D)} {ds : List D}, VRs K S O Ha H vs xs → noPeek xs = some ds → RpA K (hide H O) vs ds
  | [], [], _, _, e => by cases e; exact .nil
  | v :: vs, (kd, d) :: xs, ds, h, e => by
    unfold noPeek at e
    split at e
    · cases e
    · obtain ⟨ds', e1, e2⟩ := Option.map_eq_some_iff.mp e
      subst e2
      exact .cons (h.1.frz hO (by assumption)) (noPeek_ok hO h.2 e1)
theorem je_tup {es : List Expr} {t : T} {x1 : Nat} {pos : Pos} (h : PA X es (tA C X.K B W t)) : JE C X B W (.Tuple es x1 pos) (.tup t) := by
  refine .of ((pe_tup h).weak fun σ H Q => ?_)
  rintro ⟨env, s, O, r, q, h⟩
  unfold evE at h
  refine ⟨env, s, O, r, q, h.bind.mono (fun xs s1 h1 => ?_) fun _ _ _ z => z⟩
  intro vs H1 e1 q1 v1
  obtain ⟨z, e, h3⟩ := h1.of
  obtain ⟨ds, e2, e3⟩ := Option.bind_eq_some_iff.mp e
  split at e3 <;> cases e3
  have rp := noPeek_ok r.dom v1 e2
  have dm := (r.ext e1 q1).dom
  refine ⟨by rw [rp.len]; assumption, fun p hp => h3 _ _ (e1.trans (Ex.new hp)) (q1.same (same_new hp)) ?_⟩
  exact new_tup (S := B.S) dm hp rp
theorem je_lst {es : List Expr} {t : T} {pos : Pos} (h : PA X es (tA C X.K B W t)) : JE C X B W (.List es pos) (.lst t) := by
  refine .of ((pe_lst h).weak fun σ H Q => ?_)
  rintro ⟨env, s, O, r, q, h⟩
  unfold evE at h
  refine ⟨env, s, O, r, q, h.bind.mono (fun xs s1 h1 => ?_) fun _ _ _ z => z⟩
  intro vs H1 e1 q1 v1
  obtain ⟨z, e, h3⟩ := h1.of
  obtain ⟨ds, e2, e3⟩ := Option.bind_eq_some_iff.mp e
  split at e3 <;> cases e3
  have rp := noPeek_ok r.dom v1 e2
  have dm := (r.ext e1 q1).dom
  refine ⟨by rw [rp.len]; assumption, fun p hp => h3 _ _ (e1.trans (Ex.new hp)) (q1.same (same_new hp)) ?_⟩
  exact (new_lst (S := B.S) dm hp rp).back e1 q1

/-! ### places -/
theorem atI_ok {K : PySem.W.Frag} {H : Hp} {vs : List V} {ds : List D} {i : Int} {d : D} (h : RpA K H vs ds) (e : atI ds i = some d) : ∃ v, atI vs i = some v ∧ Rp K H v d := by
  unfold atI at *
  rw [h.len]
  obtain ⟨j, e1, e2⟩ := Option.bind_eq_some_iff.mp e
  obtain ⟨v, e3, r⟩ := h.get e2
  exact ⟨v, by rw [e1]; exact e3, r⟩
theorem str1_ok {z : Str} {c : Nat} (h : PyData.strOk z = true) (hc : c ∈ z.cps.toList) : PyData.strOk ⟨#[c]⟩ = true := by
  refine strOk_of fun d hd => ?_
  have e : d = c := by simpa using hd
  subst e
  exact okT_of h _ hc
theorem atI_mem {α : Type} {xs : List α} {i : Int} {x : α} (h : atI xs i = some x) : x ∈ xs := by
  unfold atI at h
  obtain ⟨j, _, e⟩ := Option.bind_eq_some_iff.mp h
  exact List.mem_of_getElem? e
theorem ix_ok : IxR X (rV2 X.K B.S fun x y => (subF x y).map fun d => (.frz, d)) := by
  intro value slice pins s σ H u w vu vw Q I ru rw' h hs
  obtain ⟨O, Ha, k1, k2, x, y, kd, z, hO, hx, hy, e, q⟩ := h
  obtain ⟨d, e, e2⟩ := Option.map_eq_some_iff.mp e
  cases e2
  unfold subF at e
  split at e
  · obtain ⟨a, vs, rfl, ea, ra⟩ := hx.list; obtain rfl := hy.int
    obtain ⟨v, e1, rv⟩ := atI_ok ra e
    exact ix_list value slice pins s σ H _ _ vu vw Q I ru rw' ⟨_, _, _, _, rfl, rfl, .of ea, e1, q _ _ (Same.refl _) rv⟩ hs
  · obtain ⟨a, vs, rfl, ea, ra⟩ := hx.tuple; obtain rfl := hy.int
    obtain ⟨v, e1, rv⟩ := atI_ok ra e
    exact ix_tup value slice pins s σ H _ _ vu vw Q I ru rw' ⟨_, _, _, _, rfl, rfl, ea, e1, q _ _ (Same.refl _) rv⟩ hs
  · obtain ⟨c, e1, e2⟩ := Option.map_eq_some_iff.mp e
    subst e2
    obtain ⟨rfl, l1, l2⟩ := hx.str; obtain rfl := hy.int
    exact ix_str value slice pins s σ H _ _ vu vw Q I ru rw' ⟨_, _, _, rfl, rfl, l1, e1, q _ _ (Same.refl _) (Rp.str _ (by show 1 ≤ sizeLine; decide) (str1_ok l2 (atI_mem e1)))⟩ hs
  · cases e
def isSlice : Expr → Bool
  | .Slice .. => true
  | _ => false
theorem plainIx_of {b : Expr} (h : isSlice b = false) : PlainIx b := fun o i => by
  cases b <;> first | rfl | cases h
theorem je_sub {a b : Expr} {ta tb : T} {pos : Pos} (ha : JE C X B W a ta) (hb : JE C X B W b tb) (hs : isSlice b = false) : JE C X B W (.Subscript a b pos) (.sub ta tb) := by
  refine .of ((pe_ix (ix_ok (B := B)) ha.e hb.e (plainIx_of hs)).weak fun σ H Q => ?_)
  rintro ⟨env, s, O, r, q, h⟩
  unfold evE at h
  refine eTwo r q (h.bind.mono (fun x s1 h1 => h1.bind.mono (fun y s2 h2 => ?_) fun _ _ _ z => z) fun _ _ _ z => z)
  obtain ⟨⟨kd, z⟩, e, h3⟩ := h2.of
  intro u w H2 e2 q2 v1 v2
  exact ⟨O, H, x.1, y.1, x.2, y.2, kd, z, (r.ext e2 q2).dom, v1, v2, e, fun v H' m vr => h3 v H' (e2.same m) (q2.same m) (VR.back (H1 := H2) vr e2 q2)⟩
theorem cut_whole (ds : List D) (lo hi : Option Int) (h : HT.sIx ds.length 0 lo = 0 ∧ HT.sIx ds.length ds.length hi = ds.length) : cutD ds lo hi = ds := by
  unfold cutD
  rw [h.1, h.2, List.drop_zero, Nat.sub_zero, List.take_length]
theorem cutS_ok {z : Str} (lo hi : Option Int) (h : PyData.strOk z = true) : PyData.strOk (cutS z lo hi) = true := by
  refine strOk_of fun d hd => okT_of h d ?_
  unfold cutS at hd
  exact List.mem_of_mem_drop (List.mem_of_mem_take (by simpa using hd))
def rVs (K : PySem.W.Frag) (S : SA) : V → Option Int → Option Int → Hp → VK → Prop := fun u lo hi H Q => ∃ (O : Addr → Prop) (Ha : Hp) (k1 : Kd) (x : D) (k : Kd) (z : D), (∀ a, O a → H a ≠ none) ∧ VR K S O Ha H k1 u x ∧ slF x lo hi = some (k, z) ∧
  ∀ v H', Same H H' → VR K S O H H' k v z → Q v H'
theorem sl_ok : SlR X (rVs X.K B.S) := by
  intro pins s σ H u v vl vu lo hi sl Q I ru hsl hlo hhi h
  obtain ⟨O, Ha, k1, x, kd, z, hO, hx, e, q⟩ := h
  unfold slF at e
  split at e
  · cases e
    obtain ⟨a, vs, rfl, ea, ra⟩ := hx.list
    exact sl_list pins s σ H _ v vl vu lo hi sl Q I ru hsl hlo hhi ⟨_, _, rfl, .of ea, fun p hp => q _ _ (same_new hp) (new_lst hO hp (ra.cut lo hi))⟩
  · cases e
    have f := hx.tupleF
    obtain ⟨a, vs, rfl, ea, ra⟩ := hx.tuple
    refine sl_tupA pins s σ H _ v vl vu lo hi sl Q I ru hsl hlo hhi ⟨_, _, rfl, ea, fun wh => ?_, fun _ p hp => q _ _ (same_new hp) (new_tup hO hp (ra.cut lo hi))⟩
    rw [ra.len] at wh
    rw [cut_whole _ _ _ wh] at q
    exact q _ _ (Same.refl _) f
  · cases e
    obtain ⟨rfl, l1, l2⟩ := hx.str
    exact sl_str pins s σ H _ v vl vu lo hi sl Q I ru hsl hlo hhi ⟨_, rfl, l1, q _ _ (Same.refl _) (Rp.str _ (Nat.le_trans (cutS_length _ _ _) l1) (cutS_ok _ _ l2))⟩
  · cases e
theorem jo_none : PO X none (tO C X.K B W .nil) := by
  refine ⟨fun pins s σ H Q I h => po_none.run pins s σ H Q I ?_⟩
  obtain ⟨env, s, O, r, q, h⟩ := h
  exact h H (Ex.refl _ _) q
theorem jo_some {e : Expr} {t u : T} (h : JE C X B W e t) : PO X (some e) (tO C X.K B W (.cons t u)) := by
  refine ⟨fun pins s σ H Q I h' => (po_some h.e).run pins s σ H Q I ?_⟩
  obtain ⟨env, s, O, r, q, h'⟩ := h'
  unfold evO at h'
  refine eOne r q (h'.bind.mono (fun x s1 h1 => ?_) fun _ _ _ z => z)
  intro u H1 e1 q1 v1
  obtain ⟨o, e, h3⟩ := h1.of
  obtain ⟨kd, d⟩ := x
  cases d with
  | int i =>
    obtain rfl := v1.int
    cases e
    exact ⟨i, rfl, h3 H1 e1 q1⟩
  | _ => cases e
theorem je_sl {e : Expr} {lo hi : Option Expr} {t tl th : T} {p2 pos : Pos} (he : JE C X B W e t) (hl : PO X lo (tO C X.K B W tl)) (hh : PO X hi (tO C X.K B W th)) : JE C X B W (.Subscript e (.Slice lo hi none p2) pos) (.sl t tl th) := by
  refine .of ((pe_slice (sl_ok (B := B)) he.e hl hh).weak fun σ H Q => ?_)
  rintro ⟨env, s, O, r, q, h⟩
  unfold evE at h
  refine eOne r q (h.bind.mono (fun x s1 h1 => ?_) fun _ _ _ z => z)
  intro u H1 e1 q1 v1
  refine ⟨env, s1, O, r.ext e1 q1, q1, h1.bind.mono (fun l s2 h2 => ?_) fun c a s' z => wX.ext (s1 := s1) e1 z⟩
  intro H2 e2 q2
  refine ⟨env, s2, O, (r.ext e1 q1).ext e2 q2, q2, h2.bind.mono (fun l' s3 h3 => ?_) fun c a s' z => wX.ext (s1 := s2) (e1.trans e2) z⟩
  intro H3 e3 q3
  obtain ⟨⟨kd, z⟩, e, h4⟩ := h3.of
  have e13 := e1.trans (e2.trans e3)
  exact ⟨O, H, x.1, x.2, kd, z, (r.ext e13 q3).dom, v1.ext r e1 q1 (e2.trans e3) q3, e, fun v H' m vr => h4 v H' (e13.same m) (q3.same m) (VR.back (H1 := H3) vr e13 q3)⟩
theorem je_rev {e : Expr} {t : T} {j : Nat} {p1 p2 p3 pos : Pos} (he : JE C X B W e t) : JE C X B W (.Subscript e (.Slice none none (some (.UnaryOp .USub (.Constant (.int 1) j p1) p2)) p3) pos) (.rev t) := by
  refine .of ((pe_revL he.e).weak fun σ H Q => ?_)
  rintro ⟨env, s, O, r, q, h⟩
  unfold evE at h
  refine eOne r q (h.bind.mono (fun x s1 h1 => ?_) fun _ _ _ z => z)
  intro u H1 e1 q1 v1
  obtain ⟨kd, d⟩ := x
  obtain ⟨z, e, h3⟩ := h1.of
  unfold revF at e
  split at e <;> cases e
  rename_i ed
  subst ed
  obtain ⟨a, vs, rfl, ea, ra⟩ := v1.list
  have dm := (r.ext e1 q1).dom
  exact ⟨_, _, rfl, .of ea, fun p hp => h3 _ _ (e1.trans (Ex.new hp)) (q1.same (same_new hp)) ((new_lst (S := B.S) dm hp ra.rev).back e1 q1)⟩

/-! ### calls -/
theorem je_bi (hx : HX C k fns cns X) {b : BI} {e : Expr} {es : List Expr} {t : T} {p pos : Pos} (hg : Gl X (biN b)) (ha : PA X (e :: es) (tA C X.K B W t)) (hs : (e :: es).all (fun e => !isStar e) = true) :
    JE C X B W (.Call (.Name (biN b) p) (e :: es) [] pos) (.bi b t) := by
  have hm : X.mg (biN b) = none := hx.blt _ (by cases b <;> decide)
  have h2 : isStar e = false := by simpa using (List.all_eq_true.mp hs) e List.mem_cons_self
  have h3 : es.all (fun e => !isStar e) = true := by
    simp only [List.all_cons, Bool.and_eq_true] at hs
    exact hs.2
  have key : PE X (.Call (.Name (biN b) p) (e :: es) [] pos) (tCB (rVn X.K B.S (biF b)) (tA C X.K B W t)) := by
    have ok := bi_ok (S := B.S) hx.guards hx.calm hx.units b
    cases b with
    | len => exact pe_callB ok hg hm (by decide +kernel) ha (he := star_cons h2) (hpl := plain_of h3)
    | abs => exact pe_callB ok hg hm (by decide +kernel) ha (he := star_cons h2) (hpl := plain_of h3)
    | max => exact pe_callB ok hg hm (by decide +kernel) ha (he := star_cons h2) (hpl := plain_of h3)
    | min => exact pe_callB ok hg hm (by decide +kernel) ha (he := star_cons h2) (hpl := plain_of h3)
    | int => exact pe_callTy ok hg hm (by decide +kernel) ha (he := star_cons h2) (hpl := plain_of h3)
    | str => exact pe_callTy ok hg hm (by decide +kernel) ha (he := star_cons h2) (hpl := plain_of h3)
    | repr => exact pe_callB ok hg hm (by decide +kernel) ha (he := star_cons h2) (hpl := plain_of h3)
    | sum => exact pe_callB ok hg hm (by decide +kernel) ha (he := star_cons h2) (hpl := plain_of h3)
    | all => exact pe_callB ok hg hm (by decide +kernel) ha (he := star_cons h2) (hpl := plain_of h3)
    | any => exact pe_callB ok hg hm (by decide +kernel) ha (he := star_cons h2) (hpl := plain_of h3)
    | list => exact pe_callTy ok hg hm (by decide +kernel) ha (he := star_cons h2) (hpl := plain_of h3)
    | tuple => exact pe_callTy ok hg hm (by decide +kernel) ha (he := star_cons h2) (hpl := plain_of h3)
    | sorted => exact pe_callB ok hg hm (by decide +kernel) ha (he := star_cons h2) (hpl := plain_of h3)
  refine .of (key.weak fun σ H Q => ?_)
  rintro ⟨env, s, O, r, q, h⟩
  unfold evE at h
  refine ⟨env, s, O, r, q, h.bind.mono (fun xs s1 h1 => ?_) fun _ _ _ z => z⟩
  intro vs H1 e1 q1 v1
  obtain ⟨⟨kd, z⟩, e, h3⟩ := h1.of
  exact ⟨O, H, xs, kd, z, (r.ext e1 q1).dom, v1, e, fun v H' m vr => h3 v H' (e1.same m) (q1.same m) (VR.back (H1 := H1) vr e1 q1)⟩
theorem je_call (hx : HX C k fns cns X) (hB : B.S.ts = C.ts) (tk : Takes X W) {f : Nat} {x : Str} {e : Expr} {es : List Expr} {t : T} {p pos : Pos} (hf : fns[f]? = some x) (hg : Gl X x) (ha : PA X (e :: es) (tG C X.K B W t)) (hs : (e :: es).all (fun e => !isStar e) = true)
    (hdb : (x == ("__debug__" : Str)) = false) : JE C X B W (.Call (.Name x p) (e :: es) [] pos) (.call f t) := by
  obtain ⟨a, fd, ps, hm, hk, hb, F⟩ := hx.fn f x hf
  have h2 : isStar e = false := by simpa using (List.all_eq_true.mp hs) e List.mem_cons_self
  have h3 : es.all (fun e => !isStar e) = true := by
    simp only [List.all_cons, Bool.and_eq_true] at hs
    exact hs.2
  refine .of ((pe_callG (E := WE W) F hx.guards hx.room hg hm hk hb (fun σ => passAt tk σ) ha hdb (star_cons h2) (plain_of h3)).weak fun σ H Q => ?_)
  rintro ⟨env, s, O, r, q, h⟩
  unfold evE at h
  refine ⟨env, s, O, r, q, h.bind.mono (fun xs s1 h1 => ?_) fun _ _ _ z => z⟩
  intro vs H1 e1 q1 v1 d1 z1
  refine ⟨B.S, O, xs, s1, hB, z1, d1, q1, v1, h1.bind.mono (fun y s2 h2 => ?_) fun c a s' z H' cls d e2 q2 xr => z H' cls d (e1.trans e2) q2 xr⟩
  intro v H2 e2 q2 v2
  exact h2 v H2 (e1.trans e2) q2 (v2.back e1 q1)
theorem je_call0 (hx : HX C k fns cns X) (hB : B.S.ts = C.ts) (tk : Takes X W) {f : Nat} {x : Str} {p pos : Pos} (hf : fns[f]? = some x) (hg : Gl X x) (hdb : (x == ("__debug__" : Str)) = false) : JE C X B W (.Call (.Name x p) [] [] pos) (.call f .nil) := by
  obtain ⟨a, fd, ps, hm, hk, hb, F⟩ := hx.fn f x hf
  refine .of ((pe_callG0 (E := WE W) F hx.guards hx.room hg hm hk hb (fun σ => passAt tk σ) hdb).weak fun σ H Q => ?_)
  rintro ⟨env, s, O, r, q, h⟩
  unfold evE at h
  have h : RQ ((C.Φ f [] s).bind fun r s => .ok (if r.1 then Kd.own else Kd.frz, r.2) s) _ _ := h
  refine ⟨B.S, O, [], s, hB, fun b z => r.sub _ (r.so b z), r.dom, q, trivial, h.bind.mono (fun y s2 h2 => ?_) fun c a s' z => z⟩
  intro v H2 e2 q2 v2
  exact h2 v H2 e2 q2 v2
/-- isinstance(x, T), T a built-in class -/
def kitT (t : String) (x : D) : Option Bool := match x with
  | .none => kitB "NoneType" t
  | .bool _ => kitB "bool" t
  | .int _ => kitB "int" t
  | .str _ => kitB "str" t
  | .list _ => kitB "list" t
  | .tuple _ => kitB "tuple" t
  | .dict _ => kitB "dict" t
theorem kit_isi (t : String) (ht : t = "int" ∨ t = "bool" ∨ t = "str" ∨ t = "tuple" ∨ t = "list" ∨ t = "dict") (x : D) : kitT t x = some (isiF t x) := by
  rcases ht with rfl | rfl | rfl | rfl | rfl | rfl <;> cases x <;> (simp only [kitT, isiF]; decide +kernel)
theorem sqT_ty {K : PySem.W.Frag} {H : Hp} {a : Addr} {vs : List V} (h : SqT K H a vs) : TyX K H (.ref a) (.type "tuple") := by
  rcases h with (h | ⟨o, h⟩) | ⟨o, its, n, h1, h2, _⟩
  · exact .base (.tup h)
  · exact .fTuple h
  · exact .kTuple h1 h2
theorem je_isi (hx : HX C k fns cns X) {t : String} {nm : Str} {a : Expr} {ta : T} {p p2 pos : Pos} (ht : t = "int" ∨ t = "bool" ∨ t = "str" ∨ t = "tuple" ∨ t = "list" ∨ t = "dict") (hn : nm = Str.ofString t) (hg : Gl X "isinstance") (hg2 : Gl X nm)
    (ha : JE C X B W a ta) (hs : isStar a = false) : JE C X B W (.Call (.Name "isinstance" p) [a, .Name nm p2] [] pos) (.isi t ta) := by
  subst hn
  have hm : X.mg "isinstance" = none := hx.blt _ (by decide)
  have hm2 : X.mg (Str.ofString t) = none := hx.blt _ (by rcases ht with rfl | rfl | rfl | rfl | rfl | rfl <;> decide)
  have hv : bootBuiltins (Str.ofString t) = some (.type t) := by rcases ht with rfl | rfl | rfl | rfl | rfl | rfl <;> decide +kernel
  have hb : PE X (.Name (Str.ofString t) p2) (tC (.ty t)) := pe_bltn hg2 hm2 hv rfl (by rcases ht with rfl | rfl | rfl | rfl | rfl | rfl <;> decide) (by rcases ht with rfl | rfl | rfl | rfl | rfl | rfl <;> decide)
  refine .of ((pe_callB call_isi hg hm (by decide +kernel) (pa_cons ha.e (pa_cons hb pa_nil rfl) (star_cons hs)) (he := star_cons hs) (hpl := rfl)).weak fun σ H Q => ?_)
  rintro ⟨env, s, O, r, q, h⟩
  unfold evE at h
  refine eOne r q (h.bind.mono (fun x s1 h1 => ?_) fun _ _ _ z => z)
  intro u H1 e1 q1 v1
  have fin := h1 _ H1 e1 q1 (Rp.bl _)
  have kt := kit_isi t ht x.2
  refine ⟨u, .ty t, ?_⟩
  have rp := v1.rp
  generalize x.2 = d at rp kt fin
  cases rp with
  | non => exact ⟨_, _, _, rfl, .ty t, .base .non, kit_ty kt, fin⟩
  | bl b => exact ⟨_, _, _, rfl, .ty t, .base (.bl b), kit_ty kt, fin⟩
  | int i => exact ⟨_, _, _, rfl, .ty t, .base (.int i), kit_ty kt, fin⟩
  | str z h1 h2 => exact ⟨_, _, _, rfl, .ty t, .base (.str z), kit_ty kt, fin⟩
  | lst h1 h2 => exact ⟨_, _, _, rfl, .ty t, .base (.lst h1), kit_ty kt, fin⟩
  | tup h1 h2 => exact ⟨_, _, _, rfl, .ty t, sqT_ty h1, kit_ty kt, fin⟩

/-! ### sep.join(row) -/
theorem txt_join_ok {sep : Str} (h : okT sep) {ss : List Str} (g : ∀ x ∈ ss, okT x) : okT (Txt.join sep ss) := by
  rw [TL.join_eq]
  exact okT_join sep h ss g
theorem strsIn {K : PySem.W.Frag} {H : Hp} : ∀ {ds : List D} {vs : List V} {ss : List Str}, RpA K H vs ds → strsOf ds = some ss → vs = ss.map V.str ∧ ∀ x ∈ ss, x.length ≤ sizeLine ∧ PyData.strOk x = true
  | [], [], ss, _, e => by cases e; exact ⟨rfl, fun x hx => by simp at hx⟩
  | d :: ds, v :: vs, ss, h, e => by
    cases h with
    | cons h1 h2 =>
      cases d with
      | str b =>
        obtain ⟨r, e1, e2⟩ := Option.map_eq_some_iff.mp e
        subst e2
        obtain ⟨rfl, g⟩ := strsIn h2 e1
        cases h1 with
        | str _ l1 l2 =>
          refine ⟨rfl, fun x hx => ?_⟩
          rcases List.mem_cons.mp hx with rfl | hx
          · exact ⟨l1, l2⟩
          · exact g x hx
      | _ => cases e
theorem okT_to {x : Str} (h : okT x) : PyData.strOk x = true := by
  unfold PyData.strOk
  rw [← Array.all_toList, List.all_eq_true]
  exact fun c hc => decide_eq_true (h c hc)
theorem join_len (sep : Str) : ∀ ss : List Str, (Str.join sep ss).length ≤ (ss.map (·.length)).sum + ss.length * sep.length
  | [] => by simp [Str.join]; rfl
  | [x] => by show x.length ≤ _; simp
  | x :: y :: r => by
    have ih := join_len sep (y :: r)
    show ((x ++ sep) ++ Str.join sep (y :: r)).length ≤ _
    rw [str_len_app, str_len_app]
    simp only [List.map_cons, List.sum_cons, List.length_cons] at ih ⊢
    have : (r.length + 1 + 1) * sep.length = sep.length + (r.length + 1) * sep.length := by rw [Nat.add_comm, Nat.add_mul, Nat.one_mul]
    omega
theorem je_join {o e : Expr} {t u : T} {apos pos : Pos} (ho : JE C X B W o t) (he : JE C X B W e u) (hs : isStar e = false) (hbase : attributeBase o "join" X.env (eval o X.env) = eval o X.env) (hl : (apos.endLine == pos.line) = true) :
    JE C X B W (.Call (.Attribute o "join" apos) [e] [] pos) (.me .join t (.cons u .nil)) := by
  refine .of ((pe_join ho.e he.e (star_cons hs) hbase hl).weak fun σ H Q => ?_)
  rintro ⟨env, s, O, r, q, h⟩
  unfold evE at h
  refine eOne r q (h.bind.mono (fun x s1 h1 => ?_) fun _ _ _ z => z)
  intro v H1 e1 q1 v1
  have r1 := r.ext e1 q1
  obtain ⟨kx, dx⟩ := x
  cases dx with
  | str sep =>
    obtain ⟨rfl, l1, l2⟩ := v1.str
    have h1 : RQ ((evA C.Φ C.G (.cons u .nil) env s1).bind _) _ _ := h1
    unfold evA at h1
    refine ⟨⟨_, rfl⟩, eOne r1 q1 (h1.bind.bind.mono (fun y s2 h2 => ?_) fun _ _ _ z H' cls d e' q' x' => z H' cls d (e1.trans e') q' x')⟩
    intro w H2 e2 q2 v2
    unfold evA at h2
    obtain ⟨z, e3, h3⟩ := RQ.of h2
    obtain ⟨ky, dy⟩ := y
    simp only [List.map_cons, List.map_nil, meF] at e3
    split at e3
    case h_2 => cases e3
    rename_i ss hss
    split at e3
    case isFalse => cases e3
    rename_i hz
    cases e3
    obtain ⟨ds, hd, hss⟩ := Option.bind_eq_some_iff.mp hss
    have fin : ∀ (a : Addr) (ws : List V), RpA X.K (hide H2 O) ws ds → (SqL X.K H2 a ws ∨ SqT X.K H2 a ws) → w = .ref a → ∃ a p, ∃ ys : List Str, V.str sep = .str a ∧ [w] = [.ref p] ∧ (SqL X.K H2 p (ys.map V.str) ∨ SqT X.K H2 p (ys.map V.str)) ∧
        (ys.map (·.length)).sum + ys.length * a.length ≤ 16777216 ∧ Q (.str (Txt.join a ys)) H2 := fun a ws ra ha ea => by
      obtain ⟨rfl, g⟩ := strsIn ra hss
      refine ⟨sep, a, ss, rfl, by rw [ea], ha, hz, h3 _ H2 (e1.trans e2) q2 (Rp.str _ ?_ ?_)⟩
      · rw [TL.join_eq]; exact Nat.le_trans (join_len _ _) (by rw [sizeLine_eq]; exact hz)
      · exact okT_to (txt_join_ok (okT_of l2) fun x hx => okT_of (g x hx).2)
    cases dy with
    | list xs =>
      cases hd
      obtain ⟨a, ws, rfl, ea, ra⟩ := v2.list
      exact fin a ws ra (.inl (.of ea)) rfl
    | tuple xs =>
      cases hd
      obtain ⟨a, ws, rfl, ea, ra⟩ := v2.tuple
      exact fin a ws ra (.inr ea) rfl
    | _ => cases hd
  | _ => exact h1.elim
theorem je_split {o e : Expr} {t u : T} {apos pos : Pos} (ho : JE C X B W o t) (he : JE C X B W e u) (hs : isStar e = false) (hbase : attributeBase o "split" X.env (eval o X.env) = eval o X.env) (hl : (apos.endLine == pos.line) = true) :
    JE C X B W (.Call (.Attribute o "split" apos) [e] [] pos) (.me .split t (.cons u .nil)) := by
  refine .of ((pe_split ho.e he.e (star_cons hs) hbase hl).weak fun σ H Q => ?_)
  rintro ⟨env, s, O, r, q, h⟩
  unfold evE at h
  refine eOne r q (h.bind.mono (fun x s1 h1 => ?_) fun _ _ _ z => z)
  intro v H1 e1 q1 v1
  have r1 := r.ext e1 q1
  obtain ⟨kx, dx⟩ := x
  cases dx with
  | str sep =>
    obtain ⟨rfl, l1, l2⟩ := v1.str
    have h1 : RQ ((evA C.Φ C.G (.cons u .nil) env s1).bind _) _ _ := h1
    unfold evA at h1
    refine ⟨⟨_, rfl⟩, eOne r1 q1 (h1.bind.bind.mono (fun y s2 h2 => ?_) fun _ _ _ z H' cls d e' q' x' => z H' cls d (e1.trans e') q' x')⟩
    intro w H2 e2 q2 v2
    have r2 := r1.ext e2 q2
    unfold evA at h2
    obtain ⟨z, e3, h3⟩ := RQ.of h2
    obtain ⟨ky, dy⟩ := y
    simp only [List.map_cons, List.map_nil, meF] at e3
    cases dy with
    | str b =>
      obtain ⟨rfl, m1, m2⟩ := v2.str
      simp only at e3
      split at e3
      case isFalse => cases e3
      rename_i hz
      cases e3
      refine ⟨sep, b, rfl, rfl, ?_, hz.2.1, fun p hp => h3 _ _ (e1.trans (e2.trans (Ex.new hp))) (q2.same (same_new hp)) ?_⟩
      · have := hz.1
        simp only [beq_eq_false_iff_ne, ne_eq]; omega
      · have g : ∀ x ∈ Txt.split sep b, x.length ≤ sizeLine ∧ PyData.strOk x = true := fun x hx => by
          have := List.all_eq_true.mp hz.2.2.1 x hx
          simp only [Bool.and_eq_true, decide_eq_true_eq] at this
          exact this
        have ra : ∀ ss : List Str, (∀ x ∈ ss, x.length ≤ sizeLine ∧ PyData.strOk x = true) → RpA X.K (hide H2 O) (ss.map V.str) (ss.map .str) := fun ss => by
          induction ss with
          | nil => intro _; exact .nil
          | cons x r ih => intro g; exact .cons (Rp.str x (g x List.mem_cons_self).1 (g x List.mem_cons_self).2) (ih fun y hy => g y (List.mem_cons_of_mem _ hy))
        have n := new_lst (S := B.S) (O := O) r2.dom hp (ra _ g)
        exact VR.back n (e1.trans e2) q2
    | _ => cases e3
  | _ => exact h1.elim
end
end Tre
/-! Tre7: what is walked; targets; comprehensions. -/
namespace Tre
open PySem PySem.Spec PyProof.Rows L2

/-- the heaps in which a walk goes on -/
def Good (S : SA) (O : Addr → Prop) (H1 : Hp) (pk : Bool) (H' : Hp) : Prop := match pk with
  | true => Ex S H1 H'
  | false => ∃ O', Same (hide H1 O) (hide H' O')
def WalkOf (K : PySem.W.Frag) (S : SA) (O : Addr → Prop) (H1 : Hp) (pk : Bool) (J : It) (xs : List D) : Prop := ∃ (G : Hp → Prop) (Y : Nat → Hp → V → Hp → Prop), Walk J xs.length G Y ∧ (∀ H', Good S O H1 pk H' → G H') ∧
  ∀ i x H' H'' O', i < xs.length → Good S O H1 pk H' → Y i H' x H'' → (∀ a, O' a → H' a ≠ none) → Same (hide H1 O) (hide H' O') → ∃ d, xs[i]? = some d ∧ Same H' H'' ∧ Rp K (hide H'' O') x d
def tI (C : Cf) (K : PySem.W.Frag) (B : Bx) (W : WX) (t : T) : TI := fun σ H R => ∃ env s O, B.Rl K O env σ H ∧ SrcR B.S H s ∧ RQ (evI C.Φ C.G t env s) (fun x s' =>
  ∀ H1 J, Ex B.S H H1 → SrcR B.S H1 s' → WalkOf K B.S O H1 x.1 J x.2 → R J H1) (wX C K B W σ H)
theorem _root_.L2.PI.weak {X : Cx} {tg e : Expr} {t t' : TI} (h : PI X tg e t) (m : ∀ σ H Q, t' σ H Q → t σ H Q) : PI X tg e t' := ⟨fun pins s σ H Q I q => h.run pins s σ H Q I (m σ H Q q)⟩

section
variable {K : PySem.W.Frag} {S : SA} {O : Addr → Prop} {Ha H1 : Hp}
/-- a list, a tuple as it stands through a walk -/
theorem good_lst {kd : Kd} {u : V} {ds : List D} (hO : ∀ a, O a → Ha a ≠ none) (h : VR K S O Ha H1 kd u (.list ds)) : ∃ a vs, u = .ref a ∧ H1 a = some (.lst vs) ∧ RpA K (hide H1 O) vs ds ∧ ∀ pk H', (kd = .peek → pk = true) → Good S O H1 pk H' → (pk = true → ¬ S.Out a) → H' a = some (.lst vs) := by
  by_cases hk : kd = .peek
  · subst hk
    obtain ⟨a, vs, ds', rfl, e0, e, p, n1⟩ := h
    cases e0
    refine ⟨a, vs, rfl, e, p, fun pk H' hp hg _ => ?_⟩
    rw [hp rfl] at hg
    exact hg a _ e n1
  · have f := h.frz hO hk
    cases f with
    | lst e1 e2 =>
      refine ⟨_, _, rfl, (hide_some e1).2, e2, fun pk H' hp hg hn => ?_⟩
      cases pk with
      | true => exact hg _ _ (hide_some e1).2 (hn rfl)
      | false =>
        obtain ⟨O', m⟩ := hg
        exact (hide_some (m _ _ e1)).2
theorem peek_nsrc {kd : Kd} {a : Addr} {ds : List D} (hS : ∀ b, S.Out b → O b) (hO : ∀ a, O a → Ha a ≠ none) (h : VR K S O Ha H1 kd (.ref a) (.list ds)) : ¬ S.Out a := by
  cases kd with
  | frz =>
    cases h with
    | lst e1 _ => exact fun z => (hide_some e1).1 (hS _ z)
  | own =>
    obtain ⟨a', vs, ds', e, e0, n, _⟩ := h
    cases e
    exact fun z => hO _ (hS _ z) n
  | peek => obtain ⟨a', vs, ds', e, e0, _, _, n1⟩ := h; cases e; exact n1
theorem good_tup {pk : Bool} {a : Addr} {vs : List V} {H' : Hp} (h : SqT K (hide H1 O) a vs) (hS : ∀ b o, hide H1 O b = some o → ¬ S.Out b) (hg : Good S O H1 pk H') : SqT K H' a vs := by
  cases pk with
  | true =>
    rcases h with (h | ⟨o, h⟩) | h
    · exact .inl (.inl (hg _ _ (hide_some h).2 (hS _ _ h)))
    · exact .inl (.inr ⟨o, hg _ _ (hide_some h).2 (hS _ _ h)⟩)
    · exact .inr h
  | false =>
    obtain ⟨O', m⟩ := hg
    exact Same.sqT same_hide (Same.sqT m h)
theorem hid_nsrc (hS : ∀ b, S.Out b → O b) : ∀ b o, hide H1 O b = some o → ¬ S.Out b := fun b o h z => (hide_some h).1 (hS _ z)
theorem VR.tupH {kd : Kd} {u : V} {ds : List D} (h : VR K S O Ha H1 kd u (.tuple ds)) : ∃ a vs, u = .ref a ∧ SqT K (hide H1 O) a vs ∧ RpA K (hide H1 O) vs ds := by
  cases h.tupleF with
  | tup e1 e2 => exact ⟨_, _, rfl, e1, e2⟩
theorem len_get {α β : Type} {xs : List α} {ys : List β} {i : Nat} {x : α} (h : xs.length = ys.length) (e : xs[i]? = some x) : i < ys.length := by
  rw [← h]; exact (List.getElem?_eq_some_iff.mp e).1
theorem walk_lst {kd : Kd} {a : Addr} {ds : List D} {vs : List V} {pk : Bool} (hr : RpA K (hide H1 O) vs ds) (hg : ∀ H', Good S O H1 pk H' → H' a = some (.lst vs)) : WalkOf K S O H1 pk (Itl K a) ds := by
  refine ⟨fun H' => SqL K H' a vs, YAt vs, hr.len ▸ walk_list, fun H' g => .of (hg H' g), fun i x H' H'' O' hi g y hO m => ?_⟩
  obtain ⟨rfl, e⟩ := y
  obtain ⟨d, e2, rd⟩ := hr.getV e
  exact ⟨d, e2, Same.refl _, rd.mono m⟩
theorem walk_tp {a : Addr} {ds : List D} {vs : List V} {pk : Bool} (hS : ∀ b, S.Out b → O b) (h : SqT K (hide H1 O) a vs) (hr : RpA K (hide H1 O) vs ds) : WalkOf K S O H1 pk (Itt K a) ds := by
  refine ⟨fun H' => SqT K H' a vs, YAt vs, hr.len ▸ walk_tup, fun H' g => good_tup h (hid_nsrc hS) g, fun i x H' H'' O' hi g y hO m => ?_⟩
  obtain ⟨rfl, e⟩ := y
  obtain ⟨d, e2, rd⟩ := hr.getV e
  exact ⟨d, e2, Same.refl _, rd.mono m⟩
theorem walk_sign {z : Str} {pk : Bool} (h : PyData.strOk z = true) : WalkOf K S O H1 pk (Its z) (signsD z) := by
  have hl : (signsD z).length = z.cps.size := by unfold signsD; rw [List.length_map, Array.length_toList]
  refine ⟨fun _ => True, _, hl ▸ walk_str, fun _ _ => trivial, fun i x H' H'' O' hi g y hO m => ?_⟩
  obtain ⟨rfl, c, e, rfl⟩ := y
  refine ⟨.str ⟨#[c]⟩, ?_, Same.refl _, Rp.str _ (by show 1 ≤ sizeLine; decide) (str1_ok h (Array.mem_toList_iff.mpr (Array.mem_of_getElem? e)))⟩
  unfold signsD
  rw [List.getElem?_map, Array.getElem?_toList, e] <;> rfl
theorem walk_rng {lo : Int} {n : Nat} {pk : Bool} : WalkOf K S O H1 pk (Itr lo n) (rngD lo n) := by
  have hl : (rngD lo n).length = n := by unfold rngD; rw [List.length_map, List.length_range]
  refine ⟨fun _ => True, YFn fun i => .int (lo + (i : Nat)), by rw [hl]; exact walk_range, fun _ _ => trivial, fun i x H' H'' O' hi g y hO m => ?_⟩
  obtain ⟨rfl, rfl⟩ := y
  rw [hl] at hi
  refine ⟨.int (lo + i), ?_, Same.refl _, Rp.int _⟩
  unfold rngD
  rw [List.getElem?_map, List.getElem?_range hi] <;> rfl
theorem walk_rngC {lo c : Int} {n : Nat} {pk : Bool} : WalkOf K S O H1 pk (Itc lo c n) (rngCD lo c n) := by
  have hl : (rngCD lo c n).length = n := by unfold rngCD; rw [List.length_map, List.length_range]
  refine ⟨fun _ => True, YFn fun i => .int (lo + (i : Nat) * c), by rw [hl]; exact walk_rangeC, fun _ _ => trivial, fun i x H' H'' O' hi g y hO m => ?_⟩
  obtain ⟨rfl, rfl⟩ := y
  rw [hl] at hi
  refine ⟨.int (lo + (i : Nat) * c), ?_, Same.refl _, Rp.int _⟩
  unfold rngCD
  rw [List.getElem?_map, List.getElem?_range hi] <;> rfl
end

section
variable {C : Cf} {k : Nat} {fns cns : List Str} {X : Cx} {B : Bx} {W : WX} {tg : Expr}
/-! ### an iterator is made -/
theorem iter_lst {pins : List (Addr × Obj)} {σ : L2.St} {H : Hp} {s : Shared} {R : It → Hp → Prop} {a : Addr} {vs : List V} (I : Inv X pins σ H s) (h : SqL X.K H a vs) (q : R (Itl X.K a) H) : wpAny (model X.prog X.w) X.A (pyIter (.ref a)) (PIE X pins σ tg R) X.xe s := by
  obtain ⟨its, rv, p, hz⟩ := I.list h
  exact wpAny_pyIter_list p.isList (pi_one (tk := s.toks) I _ (turn_list a _) ⟨_, Heap.get?_push_size _ rfl, rfl, rfl⟩ q)
theorem iter_tup {pins : List (Addr × Obj)} {σ : L2.St} {H : Hp} {s : Shared} {R : It → Hp → Prop} {a : Addr} {vs : List V} (I : Inv X pins σ H s) (h : SqT X.K H a vs) (q : R (Itt X.K a) H) : wpAny (model X.prog X.w) X.A (pyIter (.ref a)) (PIE X pins σ tg R) X.xe s := by
  obtain ⟨its, rv, p, hz⟩ := I.tuple h
  exact wpAny_pyIter_tuple (show s.heap.IsTuple a its.toArray from p) (pi_one (tk := s.toks) I _ (turn_tuple a _) ⟨_, Heap.get?_push_size _ rfl, rfl, rfl⟩ q)
theorem iter_str {pins : List (Addr × Obj)} {σ : L2.St} {H : Hp} {s : Shared} {R : It → Hp → Prop} {x : Str} {t : Tok} (I : Inv X pins σ H s) (q : R (Its x) H) : wpAny (model X.prog X.w) X.A (pyIter (.str x t)) (PIE X pins σ tg R) X.xe s := by
  cases ha : x.cps.all (· < 128) with
  | false => exact wpAny_pyIter_wide ha (pi_one (tk := s.toks) I _ (turn_str _ x t "str_iterator" (.inr rfl)) ⟨_, Heap.get?_push_size _ rfl, rfl, rfl⟩ q)
  | true => exact wpAny_pyIter_ascii ha (pi_one (tk := s.toks) I _ (turn_str _ x t "str_ascii_iterator" (.inl rfl)) ⟨_, Heap.get?_push_size _ rfl, rfl, rfl⟩ q)
theorem ji_it {e : Expr} {t : T} (he : JE C X B W e t) : PI X tg e (tI C X.K B W (.it t)) := by
  constructor
  intro pins s σ H R I h
  obtain ⟨env, sr, O, r, q, h⟩ := h
  unfold evI at h
  refine thn (he.e.run pins s σ H (fun u H1 => ∃ x : Kd × D, ∃ s1, Ex B.S H H1 ∧ SrcR B.S H1 s1 ∧ VR X.K B.S O H H1 x.1 u x.2 ∧ RQ (Tre.R.of ((itF x.2).map fun xs => (decide (x.1 = .peek), xs)) s1) (fun x s' => ∀ H1 J, Ex B.S H H1 → SrcR B.S H1 s' → WalkOf X.K B.S O H1 x.1 J x.2 → R J H1) (wX C X.K B W σ H)) I
    ⟨env, sr, O, r, q, h.bind.mono (fun x s1 h1 u H1 e1 q1 v1 => ⟨x, s1, e1, q1, v1, h1⟩) fun _ _ _ z => z⟩) ?_
  rintro v s1 ⟨u, H1, I1, ru, ⟨kd, d⟩, s2, e1, q1, v1, h1⟩
  obtain ⟨y, e2, h2⟩ := h1.of
  obtain ⟨ds, e3, e4⟩ := Option.map_eq_some_iff.mp e2
  subst e4
  have hS : ∀ b, B.S.Out b → O b := fun b z => r.sub _ (r.so b z)
  unfold itF at e3
  split at e3
  · rename_i ed
    cases e3
    have ed : d = .list ds := ed
    subst ed
    obtain ⟨a, vs, rfl, ea, ra, gd⟩ := good_lst r.dom v1
    have nn := peek_nsrc hS r.dom v1
    cases ru
    exact iter_lst I1 (.of ea) (h2 H1 _ e1 q1 (walk_lst (kd := kd) ra fun H' g => gd _ H' (fun z => decide_eq_true z) g fun _ => nn))
  · rename_i ed
    cases e3
    have ed : d = .tuple ds := ed
    subst ed
    obtain ⟨a, vs, rfl, ea, ra⟩ := VR.tupH v1
    cases ru
    exact iter_tup I1 (Same.sqT same_hide ea) (h2 H1 _ e1 q1 (walk_tp hS ea ra))
  · rename_i ed
    cases e3
    rename_i z
    have ed : d = .str z := ed
    subst ed
    obtain ⟨rfl, l1, l2⟩ := v1.str
    obtain ⟨t, rfl⟩ := ru
    exact iter_str I1 (h2 H1 _ e1 q1 (walk_sign l2))
  · cases e3
theorem ji_rng1 (hx : HX C k fns cns X) {e : Expr} {t : T} {p pos : Pos} (hg : Gl X "range") (he : JE C X B W e t) (hs : isStar e = false) : PI X tg (.Call (.Name "range" p) [e] [] pos) (tI C X.K B W (.rng (.cons t .nil))) := by
  refine (pi_range1 hg (hx.blt _ (by decide)) (ja_cons he ja_nil hs) (star_cons hs)).weak fun σ H R => ?_
  rintro ⟨env, s, O, r, q, h⟩
  unfold evI evA at h
  refine ⟨env, s, O, r, q, ?_⟩
  unfold evA
  refine RQ.unbind (h.bind.bind.mono (fun x s1 h1 => ?_) fun _ _ _ z => z)
  intro vs H1 e1 q1 v1
  obtain ⟨y, e2, h2⟩ := RQ.of h1
  obtain ⟨ds, e3, e4⟩ := Option.map_eq_some_iff.mp e2
  subst e4
  obtain ⟨u, kd, rfl, rr⟩ := vrs1 v1 rfl
  obtain ⟨kx, d⟩ := x
  unfold rngF at e3
  split at e3
  · rename_i ed
    split at e3 <;> cases e3
    rename_i hj
    unfold okR at hj
    simp only [Bool.and_eq_true, decide_eq_true_eq] at hj
    cases ed
    obtain rfl := rr.int
    exact ⟨_, rfl, hj.1, hj.2, h2 H1 _ e1 q1 walk_rng⟩
  · rename_i ed
    cases ed
  · cases e3
theorem ji_rng2 (hx : HX C k fns cns X) {e e' : Expr} {t t' : T} {p pos : Pos} (hg : Gl X "range") (he : JE C X B W e t) (he' : JE C X B W e' t') (hs : isStar e = false) (hs' : isStar e' = false) : PI X tg (.Call (.Name "range" p) [e, e'] [] pos) (tI C X.K B W (.rng (.cons t (.cons t' .nil)))) := by
  refine (pi_range2 hg (hx.blt _ (by decide)) (ja_cons he (ja_cons he' ja_nil hs') hs) (by rw [star_cons hs, star_cons hs'] <;> rfl) (by rw [star_cons hs'] <;> rfl)).weak fun σ H R => ?_
  rintro ⟨env, s, O, r, q, h⟩
  unfold evI evA evA at h
  refine ⟨env, s, O, r, q, ?_⟩
  unfold evA evA
  refine RQ.unbind (h.bind.bind.mono (fun x s1 h1 => RQ.unbind (RQ.unbind (h1.bind.bind.mono (fun x' s2 h2 => ?_) fun _ _ _ z => z))) fun _ _ _ z => z)
  intro vs H1 e1 q1 v1
  obtain ⟨y, e2, h3⟩ := RQ.of h2
  obtain ⟨ds, e3, e4⟩ := Option.map_eq_some_iff.mp e2
  subst e4
  obtain ⟨u, u', kd, kd', rfl, rr, rr'⟩ := vrs2 v1 rfl
  obtain ⟨kx, d⟩ := x
  obtain ⟨kx', d'⟩ := x'
  unfold rngF at e3
  split at e3
  · rename_i ed
    cases ed
  · rename_i ed
    split at e3 <;> cases e3
    rename_i hj
    unfold okR at hj
    simp only [Bool.and_eq_true, decide_eq_true_eq] at hj
    cases ed
    obtain rfl := rr.int
    obtain rfl := rr'.int
    exact ⟨_, _, rfl, ⟨hj.1.1, hj.1.2, hj.2.1, hj.2.2⟩, h3 H1 _ e1 q1 walk_rng⟩
  · cases e3
theorem walk_revT {K : PySem.W.Frag} {a : Addr} {xs : List V} : Walk (RT.ItvT K a xs.length) xs.length (fun H => SqT K H a xs) (fun i H x H' => H' = H ∧ xs[xs.length - 1 - i]? = some x) where
  goes := fun i H hi g => ⟨hi, xs, xs[xs.length - 1 - i], g, List.getElem?_eq_getElem (by omega)⟩
  stops := fun H g => Nat.le_refl _
  yields := fun i H x H' hi g y => ⟨y.1, y.2 xs g⟩
theorem getrev {α : Type} {xs : List α} {i : Nat} (hi : i < xs.length) : xs.reverse[i]? = xs[xs.length - 1 - i]? := by
  rw [List.getElem?_reverse hi]
theorem ji_rvd (hx : HX C k fns cns X) {e : Expr} {t : T} {p pos : Pos} (hg : Gl X "reversed") (he : JE C X B W e t) (hs : isStar e = false) : PI X tg (.Call (.Name "reversed" p) [e] [] pos) (tI C X.K B W (.rvd t)) := by
  refine (RT.pi_revA hg (hx.blt _ (by decide)) he.e (star_cons hs)).weak fun σ H R => ?_
  rintro ⟨env, s, O, r, q, h⟩
  unfold evI at h
  refine eOne r q (h.bind.mono (fun x s1 h1 => ?_) fun _ _ _ z => z)
  intro u H1 e1 q1 v1
  obtain ⟨y, e2, h2⟩ := h1.of
  obtain ⟨ds, e3, e4⟩ := Option.map_eq_some_iff.mp e2
  subst e4
  have hS : ∀ b, B.S.Out b → O b := fun b z => r.sub _ (r.so b z)
  obtain ⟨kd, d⟩ := x
  unfold itemsOf at e3
  split at e3
  · rename_i ed
    cases e3
    have ed : d = .list ds := ed
    subst ed
    obtain ⟨a, vs, rfl, ea, ra, gd⟩ := good_lst r.dom v1
    have nn := peek_nsrc hS r.dom v1
    refine ⟨a, vs, rfl, .inl ⟨.of ea, h2 H1 _ e1 q1 ?_⟩⟩
    refine ⟨fun H' => SqL X.K H' a vs, fun i H x H' => H' = H ∧ vs[vs.length - 1 - i]? = some x, by show Walk _ ds.reverse.length _ _; rw [List.length_reverse, ← ra.len]; exact walk_rev, fun H' g => .of (gd _ H' (fun z => decide_eq_true z) g fun _ => nn), fun i x H' H'' O' hi g y hO m => ?_⟩
    obtain ⟨rfl, e⟩ := y
    obtain ⟨d, e2, rd⟩ := ra.getV e
    refine ⟨d, ?_, Same.refl _, rd.mono m⟩
    have hi : i < ds.reverse.length := hi
    rw [List.length_reverse] at hi
    rw [getrev hi, ← ra.len]
    exact e2
  · rename_i ed
    cases e3
    have ed : d = .tuple ds := ed
    subst ed
    obtain ⟨a, vs, rfl, ea, ra⟩ := VR.tupH v1
    refine ⟨a, vs, rfl, .inr ⟨Same.sqT same_hide ea, h2 H1 _ e1 q1 ?_⟩⟩
    refine ⟨fun H' => SqT X.K H' a vs, fun i H x H' => H' = H ∧ vs[vs.length - 1 - i]? = some x, by show Walk _ ds.reverse.length _ _; rw [List.length_reverse, ← ra.len]; exact walk_revT, fun H' g => good_tup ea (hid_nsrc hS) g, fun i x H' H'' O' hi g y hO m => ?_⟩
    obtain ⟨rfl, e⟩ := y
    obtain ⟨d, e2, rd⟩ := ra.getV e
    refine ⟨d, ?_, Same.refl _, rd.mono m⟩
    have hi : i < ds.reverse.length := hi
    rw [List.length_reverse] at hi
    rw [getrev hi, ← ra.len]
    exact e2
  · cases e3
theorem ji_rvr1 (hx : HX C k fns cns X) {e : Expr} {t : T} {p p2 pos pos2 : Pos} (hg : Gl X "reversed") (hg2 : Gl X "range") (he : JE C X B W e t) (hs : isStar e = false) :
    PI X tg (.Call (.Name "reversed" p) [.Call (.Name "range" p2) [e] [] pos2] [] pos) (tI C X.K B W (.rvr (.cons t .nil))) := by
  refine (pi_revR hg (hx.blt _ (by decide)) (prg_1 hg2 (hx.blt _ (by decide)) he.e (star_cons hs)) rfl).weak fun σ H R => ?_
  rintro ⟨env, s, O, r, q, h⟩
  unfold evI evA at h
  refine eOne r q (h.bind.bind.mono (fun x s1 h1 => ?_) fun _ _ _ z => z)
  intro u H1 e1 q1 v1
  obtain ⟨y, e2, h2⟩ := RQ.of h1
  obtain ⟨ds, e3, e4⟩ := Option.map_eq_some_iff.mp e2
  subst e4
  obtain ⟨kd, d⟩ := x
  unfold rvrF at e3
  split at e3
  · rename_i ed
    split at e3 <;> cases e3
    rename_i hj
    unfold okR at hj
    simp only [Bool.and_eq_true, decide_eq_true_eq] at hj
    cases ed
    obtain rfl := v1.int
    rename_i j
    refine ⟨j, rfl, by omega, by omega, hj.1, hj.2, ?_⟩
    have e5 : (j - 0).toNat = j.toNat := by rw [Int.sub_zero]
    have e6 : (0 : Int) + (((j - 0).toNat : Nat) : Int) - 1 = ((j.toNat : Nat) : Int) - 1 := by rw [e5]; omega
    rw [e6, e5]
    exact h2 H1 _ e1 q1 walk_rngC
  · rename_i ed
    cases ed
  · cases e3
/-! ### enumerate -/
theorem enuD_len : ∀ (xs : List D) (j : Nat), (enuD j xs).length = xs.length
  | [], _ => rfl
  | x :: xs, j => by show (enuD (j + 1) xs).length + 1 = xs.length + 1; rw [enuD_len xs]
theorem enuD_get : ∀ (xs : List D) (j i : Nat) (d : D), xs[i]? = some d → (enuD j xs)[i]? = some (.tuple [.int ((j + i : Nat) : Int), d])
  | x :: xs, j, 0, d, h => by cases h; rfl
  | x :: xs, j, i + 1, d, h => by
    have := enuD_get xs (j + 1) i d (by simpa using h)
    have e : j + 1 + i = j + (i + 1) := by omega
    rw [e] at this
    simpa [enuD] using this
theorem walk_enuL {K : PySem.W.Frag} {S : SA} {O : Addr → Prop} {H1 : Hp} {a : Addr} {ds : List D} {vs : List V} {pk : Bool} (hr : RpA K (hide H1 O) vs ds) (hg : ∀ H', Good S O H1 pk H' → H' a = some (.lst vs)) : WalkOf K S O H1 pk (Ite K a) (enuD 0 ds) := by
  refine ⟨fun H' => SqL K H' a vs, fun i H v H' => ∃ T x, v = .ref T ∧ H T = none ∧ H' = upd H T (.tup [.int (i : Nat), x]) ∧ vs[i]? = some x, ⟨fun i H hi g => ?_, fun H g => ?_, fun i H x H' hi g y => ?_⟩, fun H' g => .of (hg H' g), fun i x H' H'' O' hi g y hO m => ?_⟩
  · rw [enuD_len, ← hr.len] at hi
    exact ⟨vs, vs[i], g, List.getElem?_eq_getElem hi⟩
  · exact ⟨vs, g, by rw [enuD_len, ← hr.len]; exact Nat.le_refl _⟩
  · obtain ⟨T, z, e1, e2, e3, e4⟩ := y
    exact ⟨T, z, e1, e2, e3, e4 vs g⟩
  · obtain ⟨T, z, rfl, e2, rfl, e4⟩ := y
    obtain ⟨d, e5, rd⟩ := hr.getV e4
    refine ⟨_, enuD_get ds 0 i d e5, same_new e2, ?_⟩
    rw [Nat.zero_add]
    exact new_tup (S := S) hO e2 (.cons (Rp.int _) (.cons (rd.mono m) .nil))
/-- the signs of a text, each in a new pair -/
def ItS (z : Str) : It :=
  ⟨fun i _ => i < z.cps.size, fun i H v H' => ∃ T c, v = .ref T ∧ H T = none ∧ H' = upd H T (.tup [.int (i : Nat), .str ⟨#[c]⟩]) ∧ z.cps[i]? = some c, fun i _ => z.cps.size ≤ i⟩
theorem turn_enumS {P : Program} {w : World} {K : PySem.W.Frag} {elts : List Expr} {kk : Nat} {tpos : Pos} (e it : Addr) (z : Str) (t : Tok) (T : String) (hT : T = "str_ascii_iterator" ∨ T = "str_iterator") :
    Turn P w K (.Tuple elts kk tpos) (ItS z) [e, it] e (fun i h => i ≤ z.cps.size ∧ (∃ old, IsEnum h e it ((i : Nat) : Int) old) ∧ h.IsStrIter it T z t i ∧ e ≠ it) where
  mem := by simp
  obj := fun i h st b hb => by
    obtain ⟨_, ⟨old, he⟩, ⟨o, ho, hc, hd⟩, _⟩ := st
    have e' : b = e ∨ b = it := by simpa using hb
    rcases e' with z | z
    · rw [z]; exact ⟨_, he, fun v q => nomatch q⟩
    · rw [z]; exact ⟨o, ho, fun v q => by rw [hd] at q; cases q⟩
  keep := fun i h h' st k => let ⟨hl, ⟨old, he⟩, ⟨o, ho, r⟩, hne⟩ := st; ⟨hl, ⟨old, k e (by simp) _ he⟩, ⟨o, k it (by simp) o ho, r⟩, hne⟩
  item := by
    intro X hP hw hK hc i pins s σ H E I hf st hg
    subst hP hw hK
    obtain ⟨hl, ⟨old, he⟩, hit, hne⟩ := st
    have hg : i < z.cps.size := hg
    have hel : e < s.heap.objs.size := Heap.lt_size he
    have hil : it < s.heap.objs.size := by obtain ⟨_, q, _⟩ := hit; exact Heap.lt_size q
    have D : Draws X.prog X.w X.A.in1 it [it] z.cps.size (fun i v => ∃ c u, z.cps[i]? = some c ∧ v = .str ⟨#[c]⟩ u) (fun i h => h.IsStrIter it T z t i) := by
      rcases hT with rfl | rfl
      · exact Draws.strAscii (A := X.A.in1) (I.ok.hd hc) it z t
      · exact Draws.strWide (A := X.A.in1) (I.ok.hd hc) it z t
    refine wpAny_pyNext_enum_itemD D he hit hg hne (by simpa using hne) fun x h' tk hx ho hit' hT' hsz hk => ?_
    obtain ⟨c, u, hcx, rfl⟩ := hx
    refine ⟨_, rfl, wpAny_letOwnedTupleGo_enum (s := { s with heap := h', toks := tk + 1 }) ho fun h'' he' sb => ?_⟩
    have hT2 : h''.get? s.heap.objs.size = some { cls := .type "tuple", data := .seq #[.int i tk, .str ⟨#[c]⟩ u] } := (sb.2 _ (Nat.ne_of_gt hel)).trans hT'
    have new : ObjOk X.prog X.w (upd H s.heap.objs.size (.tup [.int (i : Nat), .str ⟨#[c]⟩])) h'' s.heap.objs.size (.tup [.int (i : Nat), .str ⟨#[c]⟩]) :=
      ⟨by show 2 ≤ sizeLine; decide, [.int i tk, .str ⟨#[c]⟩ u], .cons ⟨_, rfl⟩ (.cons ⟨_, rfl⟩ .nil), ⟨_, hT2, rfl, _, rfl⟩⟩
    have I1 : Inv X pins σ (upd H s.heap.objs.size (.tup [.int (i : Nat), .str ⟨#[c]⟩])) { s with heap := h'', toks := tk + 1 } :=
      I.turnedNew (ch := [e, it]) (fun b ob hb q => (sb.2 b (fun z => hb (by simp [z]))).trans (hk b ob (fun z => hb (by simp [z])) (fun z => hb (by simp [z])) q)) hf (Nat.le_refl _) new
    refine ⟨.ref s.heap.objs.size, _, I1, rfl, ⟨_, c, rfl, I.hok.fresh (Nat.le_refl _), rfl, hcx⟩, ⟨hg, ⟨.str ⟨#[c]⟩ u, ?_⟩, ?_, hne⟩, fun b hb => ?_⟩
    · have e1 : ((i + 1 : Nat) : Int) = (i : Int) + 1 := by omega
      rw [e1]; exact he'
    · obtain ⟨o, ho, r⟩ := hit'
      exact ⟨o, (sb.2 it (Ne.symm hne)).trans ho, r⟩
    · have hb' : b < s.heap.objs.size := by
        have e' : b = e ∨ b = it := by simpa using hb
        rcases e' with z | z
        · rw [z]; exact hel
        · rw [z]; exact hil
      rw [upd_ne (Nat.ne_of_lt hb')]
      exact (hf b hb).1
  done := by
    intro X hP hw hK hc i pins s σ H E I hf st hg
    subst hP hw hK
    obtain ⟨hl, ⟨old, he⟩, hit, hne⟩ := st
    have hg : z.cps.size ≤ i := hg
    have hi : i = z.cps.size := Nat.le_antisymm hl hg
    subst hi
    obtain ⟨f0, f1, f2, f3, f4, f5⟩ := hf it (by simp)
    have D : Draws X.prog X.w X.A.in1 it [it] z.cps.size (fun i v => ∃ c u, z.cps[i]? = some c ∧ v = .str ⟨#[c]⟩ u) (fun i h => h.IsStrIter it T z t i) := by
      rcases hT with rfl | rfl
      · exact Draws.strAscii (A := X.A.in1) (I.ok.hd hc) it z t
      · exact Draws.strWide (A := X.A.in1) (I.ok.hd hc) it z t
    exact wpAny_pyNext_enum_endD D he hit fun h' eb => ⟨rfl, I.turned (t' := s.toks) (fun b o hb q => eb b o hb q) f0 f1 f3 f4 f5⟩
  self := fun A i s Q E st h => let ⟨_, ⟨_, he⟩, _⟩ := st; wpAny_pyIter_enum he h
theorem walk_enuS {K : PySem.W.Frag} {S : SA} {O : Addr → Prop} {H1 : Hp} {z : Str} {pk : Bool} (h : PyData.strOk z = true) : WalkOf K S O H1 pk (ItS z) (enuD 0 (signsD z)) := by
  have hl : (signsD z).length = z.cps.size := by unfold signsD; rw [List.length_map, Array.length_toList]
  refine ⟨fun _ => True, fun i H v H' => ∃ T c, v = .ref T ∧ H T = none ∧ H' = upd H T (.tup [.int (i : Nat), .str ⟨#[c]⟩]) ∧ z.cps[i]? = some c, ⟨fun i H hi g => ?_, fun H g => ?_, fun i H x H' hi g y => y⟩, fun H' g => trivial, fun i x H' H'' O' hi g y hO m => ?_⟩
  · rw [enuD_len, hl] at hi; exact hi
  · show _ ≤ _
    rw [enuD_len, hl]; exact Nat.le_refl _
  · obtain ⟨T, c, rfl, e2, rfl, e4⟩ := y
    have e5 : (signsD z)[i]? = some (.str ⟨#[c]⟩) := by
      unfold signsD
      rw [List.getElem?_map, Array.getElem?_toList, e4] <;> rfl
    refine ⟨_, enuD_get _ 0 i _ e5, same_new e2, ?_⟩
    rw [Nat.zero_add]
    exact new_tup (S := S) hO e2 (.cons (Rp.int _) (.cons (Rp.str _ (by show 1 ≤ sizeLine; decide) (str1_ok h (Array.mem_toList_iff.mpr (Array.mem_of_getElem? e4)))) .nil))
theorem ji_enu (hx : HX C k fns cns X) {e : Expr} {t : T} {p pos tpos : Pos} {elts : List Expr} {kk : Nat} (hg : Gl X "enumerate") (he : JE C X B W e t) (hs : isStar e = false) : PI X (.Tuple elts kk tpos) (.Call (.Name "enumerate" p) [e] [] pos) (tI C X.K B W (.enu t)) := by
  constructor
  intro pins s σ H R I h
  obtain ⟨env, sr, O, r, q, h⟩ := h
  unfold evI at h
  refine Call_ (ld_blt I hg (hx.blt _ (by decide)) boot_enumerate (PyProof.Rows.callWith_type1 (thn ((pa_cons he.e pa_nil (star_cons hs)).run pos pins s σ H (fun us H1 => ∃ u, us = [u] ∧ ∃ x : Kd × D, ∃ s1, Ex B.S H H1 ∧ SrcR B.S H1 s1 ∧ VR X.K B.S O H H1 x.1 u x.2 ∧ RQ (Tre.R.of ((enF x.2).map fun xs => (decide (x.1 = .peek), xs)) s1) (fun x s' => ∀ H1 J, Ex B.S H H1 → SrcR B.S H1 s' → WalkOf X.K B.S O H1 x.1 J x.2 → R J H1) (wX C X.K B W σ H)) I
    ⟨env, sr, O, r, q, h.bind.mono (fun x s1 h1 u H1 e1 q1 v1 => ⟨u, rfl, x, s1, e1, q1, v1, h1⟩) fun _ _ _ z => z⟩) ?_) (star_cons hs) rfl))
  rintro us s1 ⟨vs, H1, I1, r1, u, rfl, ⟨kd, d⟩, s2, e1, q1, v1, h1⟩
  cases r1 with
  | cons ru rr =>
  cases rr
  obtain ⟨y, e2, h2⟩ := h1.of
  obtain ⟨ds, e3, e4⟩ := Option.map_eq_some_iff.mp e2
  subst e4
  have hS : ∀ b, B.S.Out b → O b := fun b z => r.sub _ (r.so b z)
  have apart : ∀ b ∈ [s1.heap.objs.size + 1, s1.heap.objs.size], s1.heap.objs.size ≤ b := fun b hb => by
    have e' : b = s1.heap.objs.size + 1 ∨ b = s1.heap.objs.size := by simpa using hb
    rcases e' with z | z
    · rw [z]; exact Nat.le_add_right _ _
    · rw [z]; exact Nat.le_refl _
  unfold enF at e3
  split at e3
  · rename_i ed
    cases e3
    rename_i ds
    have ed : d = .list ds := ed
    subst ed
    obtain ⟨a, vs, rfl, ea, ra, gd⟩ := good_lst r.dom v1
    have nn := peek_nsrc hS r.dom v1
    cases ru
    obtain ⟨its, rv, p', hz⟩ := I1.list (SqL.of (K := X.K) ea)
    refine call_enumerate_list p'.isList fun h' he hit hsz hk => wpAny_pyIter_enum he ?_
    have I2 : Inv X pins σ H1 { s1 with heap := h' } := I1.kept (t' := s1.toks) hk
    exact ⟨s1.heap.objs.size + 1, [s1.heap.objs.size + 1, s1.heap.objs.size], _, _, H1, rfl, I2, turn_enum a (s1.heap.objs.size + 1) s1.heap.objs.size, ⟨⟨.none, he⟩, hit, Nat.succ_ne_self _⟩, fun b hb => I1.fpOk (apart b hb) (I1.hok.fresh (apart b hb)),
      h2 H1 _ e1 q1 (walk_enuL ra fun H' g => gd _ H' (fun z => decide_eq_true z) g fun _ => nn)⟩
  · rename_i ed
    cases e3
    rename_i z
    have ed : d = .str z := ed
    subst ed
    obtain ⟨rfl, l1, l2⟩ := v1.str
    obtain ⟨t, rfl⟩ := ru
    refine call_enumerate_str fun h' he hit hsz hk => wpAny_pyIter_enum he ?_
    have I2 : Inv X pins σ H1 { s1 with heap := h' } := I1.kept (t' := s1.toks) hk
    have ht : strIterType z = "str_ascii_iterator" ∨ strIterType z = "str_iterator" := by
      unfold strIterType; split <;> simp
    exact ⟨s1.heap.objs.size + 1, [s1.heap.objs.size + 1, s1.heap.objs.size], _, _, H1, rfl, I2, turn_enumS (s1.heap.objs.size + 1) s1.heap.objs.size z t _ ht, ⟨Nat.zero_le _, ⟨.none, he⟩, hit, Nat.succ_ne_self _⟩, fun b hb => I1.fpOk (apart b hb) (I1.hok.fresh (apart b hb)),
      h2 H1 _ e1 q1 (walk_enuS l2)⟩
  · cases e3
/-! ### stores -/
def slotsT : T → List Nat
  | .v i => [i]
  | .ov i => [i]
  | .tup ts => slotsT ts
  | .cons a r => slotsT a ++ slotsT r
  | _ => []
theorem putE_some {env env' : Env} {i : Nat} {x : Slot} (h : putE env i x = some env') : i < env.length ∧ env' = env.set i x := by
  unfold putE at h
  split at h
  · cases h; exact ⟨by assumption, rfl⟩
  · cases h
section
variable {K : PySem.W.Frag} {O : Addr → Prop} {Ha H : Hp} {env env' : Env} {σ : L2.St} {s : Src}
/-- a frozen value is stored -/
theorem Rl.setF (r : B.Rl K O env σ H) {i : Nat} {v : V} {d : D} (h : Rp K (hide H O) v d) : B.Rl K O (env.set i (.d false d)) (σ.set i (some v)) H where
  len := by rw [List.length_set, List.length_set]; exact r.len
  so := r.so
  sub := r.sub
  dom := r.dom
  dom0 := r.dom0
  same := r.same
  slots := fun j x o e1 e2 => by
    by_cases hj : i = j
    · subst hj
      have h1 : i < env.length := by
        have := (List.getElem?_eq_some_iff.mp e1).1
        rwa [List.length_set] at this
      rw [List.getElem?_set_self h1] at e1
      rw [List.getElem?_set_self (by rw [← r.len]; exact h1)] at e2
      cases e1; cases e2
      exact ⟨v, rfl, h⟩
    · rw [List.getElem?_set_ne hj] at e1 e2
      exact r.slots j x o e1 e2
  inj := fun j l d1 d2 a e1 e2 e3 e4 => by
    have n1 : i ≠ j := fun z => by
      subst z
      have h1 : i < env.length := by
        have := (List.getElem?_eq_some_iff.mp e1).1
        rwa [List.length_set] at this
      rw [List.getElem?_set_self h1] at e1
      cases e1
    have n2 : i ≠ l := fun z => by
      subst z
      have h1 : i < env.length := by
        have := (List.getElem?_eq_some_iff.mp e2).1
        rwa [List.length_set] at this
      rw [List.getElem?_set_self h1] at e2
      cases e2
    rw [List.getElem?_set_ne n1] at e1 e3
    rw [List.getElem?_set_ne n2] at e2 e4
    exact r.inj j l d1 d2 a e1 e2 e3 e4
/-- a new object is hidden -/
theorem Rl.hideNew (r : B.Rl K O env σ Ha) (e : Ex B.S Ha H) (q : SrcR B.S H s) {a : Addr} (n : Ha a = none) (t : H a ≠ none) : B.Rl K (fun b => O b ∨ b = a) env σ H where
  len := r.len
  so := r.so
  sub := fun b h => .inl (r.sub b h)
  dom := fun b h => by
    rcases h with h | rfl
    · exact (r.ext e q).dom b h
    · exact t
  dom0 := r.dom0
  same := r.same.trans e
  slots := fun j x o e1 e2 => by
    have h := r.slots j x o e1 e2
    have m : Same (hide Ha O) (hide H fun b => O b ∨ b = a) := hide_same (fun b p nb hb => e b p hb (r.nO nb)) fun b z nb => z.elim (fun z => absurd z nb) fun z => by subst z; exact n
    cases x with
    | e => trivial
    | src => exact h
    | d k d =>
      cases k with
      | false =>
        obtain ⟨v, rfl, p⟩ := h
        exact ⟨v, rfl, p.mono m⟩
      | true =>
        obtain ⟨b, vs, ds, rfl, rfl, p1, p2, p3, p4, p5⟩ := h
        exact ⟨b, vs, ds, rfl, rfl, e b _ p1 (r.nO0 p4), p2.mono m, .inl p3, p4, p5⟩
  inj := r.inj
/-- what a slot owns stood there -/
theorem Rl.owned (r : B.Rl K O env σ H) {i : Nat} {d : D} {a : Addr} (e1 : env[i]? = some (.d true d)) (e2 : σ[i]? = some (some (.ref a))) : ∃ vs ds, d = .list ds ∧ H a = some (.lst vs) ∧ RpA K (hide H O) vs ds ∧ O a ∧ ¬ B.O0 a ∧ B.H0 a = none := by
  obtain ⟨b, vs, ds, e3, rfl, p⟩ := r.slots i _ _ e1 e2
  cases e3
  exact ⟨vs, ds, rfl, p⟩
/-- a new list becomes a slot's own -/
theorem Rl.setO (r : B.Rl K O env σ Ha) (e : Ex B.S Ha H) (q : SrcR B.S H s) {i : Nat} {a : Addr} {vs : List V} {ds : List D} (n : Ha a = none) (t : H a = some (.lst vs)) (h : RpA K (hide H fun b => O b ∨ b = a) vs ds) :
    B.Rl K (fun b => O b ∨ b = a) (env.set i (.d true (.list ds))) (σ.set i (some (.ref a))) H := by
  have r' := r.hideNew e q n (by rw [t]; exact fun z => nomatch z)
  have nO : ¬ O a := fun z => r.dom a z n
  have fresh : ∀ (j : Nat) (d : D), env[j]? = some (.d true d) → σ[j]? = some (some (.ref a)) → False := fun j d e1 e2 => by
    obtain ⟨_, _, _, p, _⟩ := r.owned e1 e2
    rw [n] at p; cases p
  have n0 : B.H0 a = none := by
    cases p : B.H0 a with
    | none => rfl
    | some o =>
      have n1 := r.nsrc n
      rw [r.same a o p n1] at n
      cases n
  refine ⟨by rw [List.length_set, List.length_set]; exact r.len, r'.so, r'.sub, r'.dom, r'.dom0, r'.same, fun j x o e1 e2 => ?_, fun j l d1 d2 b e1 e2 e3 e4 => ?_⟩
  · by_cases hj : i = j
    · subst hj
      have h1 : i < env.length := by
        have := (List.getElem?_eq_some_iff.mp e1).1
        rwa [List.length_set] at this
      rw [List.getElem?_set_self h1] at e1
      rw [List.getElem?_set_self (by rw [← r.len]; exact h1)] at e2
      cases e1; cases e2
      exact ⟨a, vs, ds, rfl, rfl, t, h, .inr rfl, fun z => nO (r.sub a z), n0⟩
    · rw [List.getElem?_set_ne hj] at e1 e2
      exact r'.slots j x o e1 e2
  · have at_ : ∀ m : Nat, i = m → ∀ dd bb, (env.set i (.d true (.list ds)))[m]? = some (.d true dd) → (σ.set i (some (.ref a)))[m]? = some (some (.ref bb)) → bb = a := fun m hm dd bb x1 x2 => by
      subst hm
      have h1 : i < env.length := by
        have := (List.getElem?_eq_some_iff.mp x1).1
        rwa [List.length_set] at this
      rw [List.getElem?_set_self (by rw [← r.len]; exact h1)] at x2
      cases x2; rfl
    by_cases hj : i = j
    · by_cases hl : i = l
      · rw [← hj, ← hl]
      · have eb := at_ j hj _ _ e1 e3
        subst eb
        rw [List.getElem?_set_ne hl] at e2 e4
        exact (fresh l d2 e2 e4).elim
    · by_cases hl : i = l
      · have eb := at_ l hl _ _ e2 e4
        subst eb
        rw [List.getElem?_set_ne hj] at e1 e3
        exact (fresh j d1 e1 e3).elim
      · rw [List.getElem?_set_ne hj] at e1 e3
        rw [List.getElem?_set_ne hl] at e2 e4
        exact r.inj j l d1 d2 b e1 e2 e3 e4
end
end
end Tre
/-! Tre8: targets, comprehensions. -/
namespace Tre
open PySem PySem.Spec PyProof.Rows L2

section
variable {K : PySem.W.Frag} {B : Bx} {O : Addr → Prop} {Ha H : Hp} {env env' : Env} {σ : L2.St} {s : Src}
theorem Rl.setE (r : B.Rl K O env σ H) (i : Nat) (o : Option V) : B.Rl K O (env.set i .e) (σ.set i o) H where
  len := by rw [List.length_set, List.length_set]; exact r.len
  so := r.so
  sub := r.sub
  dom := r.dom
  dom0 := r.dom0
  same := r.same
  slots := fun j x p e1 e2 => by
    by_cases hj : i = j
    · subst hj
      have h1 : i < env.length := by
        have := (List.getElem?_eq_some_iff.mp e1).1
        rwa [List.length_set] at this
      rw [List.getElem?_set_self h1] at e1
      cases e1
      trivial
    · rw [List.getElem?_set_ne hj] at e1 e2
      exact r.slots j x p e1 e2
  inj := fun j l d1 d2 a e1 e2 e3 e4 => by
    have ne : ∀ m d, (env.set i Slot.e)[m]? = some (.d true d) → i ≠ m := fun m d e z => by
      subst z
      have h1 : i < env.length := by
        have := (List.getElem?_eq_some_iff.mp e).1
        rwa [List.length_set] at this
      rw [List.getElem?_set_self h1] at e
      cases e
    have n1 := ne j d1 e1
    have n2 := ne l d2 e2
    rw [List.getElem?_set_ne n1] at e1 e3
    rw [List.getElem?_set_ne n2] at e2 e4
    exact r.inj j l d1 d2 a e1 e2 e3 e4
theorem set_get_self {α : Type} (l : List α) (i : Nat) (x : α) (h : l[i]? = some x) : l.set i x = l := by
  obtain ⟨h1, h2⟩ := List.getElem?_eq_some_iff.mp h
  rw [← h2]
  exact List.set_getElem_self h1
theorem Rl.kill (r : B.Rl K O env σ H) (i : Nat) : B.Rl K O (env.set i .e) σ H := by
  cases e : σ[i]? with
  | none =>
    have : σ.length ≤ i := List.getElem?_eq_none_iff.mp e
    rw [List.set_eq_of_length_le (by rw [r.len]; exact this)]
    exact r
  | some o =>
    have := r.setE i o
    rwa [set_get_self σ i o e] at this
theorem Rl.kl (r : B.Rl K O env σ H) : ∀ is : List Nat, B.Rl K O (klE env is) σ H
  | [] => r
  | i :: is => (Rl.kl r is).kill i
theorem Rl.wipe (r : B.Rl K O env σ H) : ∀ is : List Nat, B.Rl K O (klE env is) (wipe σ is) H
  | [] => r
  | i :: is => (Rl.wipe r is).setE i none
/-- a hidden object that no slot owns is written -/
theorem Rl.poke (r : B.Rl K O env σ H) {a : Addr} {o : HO} (h : O a) (n0 : B.H0 a = none) (ns : ∀ (i : Nat) (d : D), env[i]? = some (Slot.d true d) → σ[i]? ≠ some (some (V.ref a))) : B.Rl K O env σ (upd H a o) where
  len := r.len
  so := r.so
  sub := r.sub
  dom := fun b hb => by
    by_cases e : b = a
    · subst e; rw [upd_same]; exact fun z => nomatch z
    · rw [upd_ne e]; exact r.dom b hb
  dom0 := r.dom0
  same := fun b p e1 e2 => by
    rw [upd_ne (fun z => by subst z; rw [n0] at e1; cases e1)]
    exact r.same b p e1 e2
  slots := fun j x p e1 e2 => by
    have q := r.slots j x p e1 e2
    cases x with
    | e => trivial
    | src => exact q
    | d k d =>
      cases k with
      | false =>
        obtain ⟨v, rfl, p⟩ := q
        exact ⟨v, rfl, by rw [hide_upd h]; exact p⟩
      | true =>
        obtain ⟨b, vs, ds, rfl, rfl, p1, p2, p3, p4, p5⟩ := q
        refine ⟨b, vs, ds, rfl, rfl, ?_, by rw [hide_upd h]; exact p2, p3, p4, p5⟩
        rw [upd_ne (fun z => ns j _ e1 (by rw [← z]; exact e2))]
        exact p1
  inj := r.inj
theorem tabs_upd {T : List (Addr × Str)} {H : Hp} {a : Addr} {o o0 : HO} (h : H a = some o0) (h1 : ∀ ps, o0 ≠ .tbl ps) (h2 : ∀ φ, o0 ≠ .ext φ) (t : LamX.Tabs T H) : LamX.Tabs T (upd H a o) := fun p hp => by
  obtain ⟨ps, e1, e2, e3⟩ := t p hp
  refine ⟨ps, ?_, e2, fun pos cv hc => ?_⟩
  · rw [upd_ne (fun z => by rw [z, h] at e1; exact h1 ps (Option.some.inj e1))]; exact e1
  · obtain ⟨c, e4, e5⟩ := e3 pos cv hc
    refine ⟨c, e4, ?_⟩
    rw [upd_ne (fun z => by rw [z, h] at e5; exact h2 _ (Option.some.inj e5))]; exact e5
/-- a list that may be written -/
def Pk (S : SA) (H : Hp) (a : Addr) : Prop := ¬ S.Out a ∧ ∃ vs, H a = some (.lst vs)
theorem SrcR.poke {S : SA} (q : SrcR S H s) {a : Addr} {o : HO} (n : Pk S H a) : SrcR S (upd H a o) s := by
  obtain ⟨n, vs, e⟩ := n
  exact ⟨q.1, by rw [upd_ne (fun z => n (.inl z.symm))]; exact q.2.1, by rw [upd_ne (fun z => n (.inr (.inl z.symm)))]; exact q.2.2.1, tabs_upd e (fun _ z => nomatch z) (fun _ z => nomatch z) q.2.2.2⟩

/-! ### targets -/
def tGt (K : PySem.W.Frag) (B : Bx) (t : T) : TG := fun v σ H Q => ∃ env s O Ha kd d env', B.Rl K O env σ Ha ∧ Ex B.S Ha H ∧ SrcR B.S H s ∧ VR K B.S O Ha H kd v d ∧ bindT t (kd, d) env = some env' ∧
  ∀ σ' O', B.Rl K O' env' σ' H → Same (hide Ha O) (hide H O') → (∀ a, O a → O' a) → (∀ j, j ∉ slotsT t → σ'[j]? = σ[j]?) → σ'.length = σ.length → Q σ' H
def tGs (K : PySem.W.Frag) (B : Bx) (t : T) : TGs := fun vs σ H Q => ∃ env s O ds env', B.Rl K O env σ H ∧ SrcR B.S H s ∧ RpA K (hide H O) vs ds ∧ bindT t (.frz, .tuple ds) env = some env' ∧
  ∀ σ' O', B.Rl K O' env' σ' H → Same (hide H O) (hide H O') → (∀ a, O a → O' a) → (∀ j, j ∉ slotsT t → σ'[j]? = σ[j]?) → σ'.length = σ.length → Q σ' H
end
theorem _root_.L2.PG.weak {X : Cx} {e : Expr} {t t' : TG} (h : PG X e t) (m : ∀ v σ H Q, t' v σ H Q → t v σ H Q) : PG X e t' := ⟨fun pins s σ H v u Q I r q => h.run pins s σ H v u Q I r (m v σ H Q q)⟩
theorem _root_.L2.PGs.weak {X : Cx} {e : List Expr} {t t' : TGs} (h : PGs X e t) (m : ∀ v σ H Q, t' v σ H Q → t v σ H Q) : PGs X e t' := ⟨fun pins s σ H v u Q I r q => h.run pins s σ H v u Q I r (m v σ H Q q)⟩

section
variable {C : Cf} {k : Nat} {fns cns : List Str} {X : Cx} {B : Bx} {W : WX}
theorem name_v {i : Nat} {v : V} {σ : L2.St} {H : Hp} {Q : L2.St → Hp → Prop} (h : tGt X.K B (.v i) v σ H Q) : gName i v σ H Q := by
  obtain ⟨env, s, O, Ha, kd, d, env', r, e, q, vr, h1, h2⟩ := h
  unfold bindT at h1
  split at h1
  · cases h1
  · obtain ⟨_, rfl⟩ := putE_some h1
    exact h2 _ O ((r.ext e q).setF (vr.frz r.dom (by assumption))) (r.hid e) (fun _ z => z) (fun j hj => by rw [List.getElem?_set_ne (fun z => hj (by simp [slotsT, z]))]) (by rw [List.length_set])
theorem name_ov {i : Nat} {v : V} {σ : L2.St} {H : Hp} {Q : L2.St → Hp → Prop} (h : tGt X.K B (.ov i) v σ H Q) : gName i v σ H Q := by
  obtain ⟨env, s, O, Ha, kd, d, env', r, e, q, vr, h1, h2⟩ := h
  unfold bindT at h1
  split at h1
  · cases h1
  · obtain ⟨_, rfl⟩ := putE_some h1
    have sl : ∀ j, j ∉ slotsT (.ov i) → (σ.set i (some v))[j]? = σ[j]? := fun j hj => by rw [List.getElem?_set_ne (fun z => hj (by simp [slotsT, z]))]
    cases kd with
    | peek => contradiction
    | frz => exact h2 _ O ((r.ext e q).setF vr) (r.hid e) (fun _ z => z) sl (by rw [List.length_set])
    | own =>
      obtain ⟨a, vs, ds, rfl, rfl, n, t, p⟩ := vr
      refine h2 _ _ (r.setO e q n t p) (hide_same (fun b o nb hb => e b o hb (r.nO nb)) fun b z nb => ?_) (fun _ z => .inl z) sl (by rw [List.length_set])
      rcases z with z | rfl
      · exact absurd z nb
      · exact n
theorem jt_v (nd : X.N.Nodup) {i : Nat} {x : Str} {pos : Pos} (hi : X.N[i]? = some x) (hx : Loc X.env.scope x) (hf : X.fn x = true ∨ X.env.scope.names.lookup x = some .local) : PG X (.Name x pos) (tGt X.K B (.v i)) :=
  (pg_name nd hi hx hf).weak fun v σ H Q => name_v
theorem jt_ov (nd : X.N.Nodup) {i : Nat} {x : Str} {pos : Pos} (hi : X.N[i]? = some x) (hx : Loc X.env.scope x) (hf : X.fn x = true ∨ X.env.scope.names.lookup x = some .local) : PG X (.Name x pos) (tGt X.K B (.ov i)) :=
  (pg_name nd hi hx hf).weak fun v σ H Q => name_ov
/-- a row of targets -/
structure JTs (X : Cx) (B : Bx) (es : List Expr) (t : T) : Prop where
  g : PGs X es (tGs X.K B t)
  len : ∀ ds env env', bindT t (.frz, .tuple ds) env = some env' → ds.length = es.length
  st : es.all (fun e => !isStar e) = true
theorem jts_nil : JTs X B [] .nil := by
  refine ⟨pgs_nil.weak fun vs σ H Q => ?_, fun ds env env' h => ?_, rfl⟩
  · rintro ⟨env, s, O, ds, env', r, q, rp, h1, h2⟩
    cases ds with
    | nil =>
      cases rp
      have e : env = env' := by simpa [bindT] using h1
      subst e
      exact ⟨rfl, h2 σ O r (Same.refl _) (fun _ z => z) (fun _ _ => rfl) rfl⟩
    | cons d ds => simp [bindT] at h1
  · cases ds with
    | nil => rfl
    | cons d ds => simp [bindT] at h
theorem jts_cons {e : Expr} {es : List Expr} {t u : T} (h : PG X e (tGt X.K B t)) (g : JTs X B es u) (hs : isStar e = false) : JTs X B (e :: es) (.cons t u) := by
  have ha : (assignEach (e :: es) X.env).map (·.2) = assign e X.env :: (assignEach es X.env).map (·.2) := by cases e <;> first | rfl | cases hs
  refine ⟨(pgs_cons h g.g ha).weak fun vs σ H Q => ?_, fun ds env env' h => ?_, by rw [List.all_cons, hs, g.st] <;> rfl⟩
  · rintro ⟨env, s, O, ds, env', r, q, rp, h1, h2⟩
    cases ds with
    | nil => simp [bindT] at h1
    | cons d ds =>
      cases rp with
      | cons rp1 rp2 =>
        have h1 : ((bindT t (.frz, d) env).bind fun env1 => bindT u (.frz, .tuple ds) env1) = some env' := by simpa [bindT] using h1
        obtain ⟨env1, b1, b2⟩ := Option.bind_eq_some_iff.mp h1
        refine ⟨_, _, rfl, env, s, O, H, .frz, d, env1, r, Ex.refl _ _, q, rp1, b1, fun σ1 O1 r1 m1 z1 s1 l1 => ?_⟩
        refine ⟨env1, s, O1, ds, env', r1, q, rp2.mono m1, b2, fun σ2 O2 r2 m2 z2 s2 l2 => ?_⟩
        refine h2 σ2 O2 r2 (m1.trans m2) (fun a z => z2 a (z1 a z)) (fun j hj => ?_) (l2.trans l1)
        have n1 : j ∉ slotsT t := fun z => hj (by simp [slotsT, z])
        have n2 : j ∉ slotsT u := fun z => hj (by simp [slotsT, z])
        rw [s2 j n2, s1 j n1]
  · cases ds with
    | nil => simp [bindT] at h
    | cons d ds =>
      have h1 : ((bindT t (.frz, d) env).bind fun env1 => bindT u (.frz, .tuple ds) env1) = some env' := by simpa [bindT] using h
      obtain ⟨env1, b1, b2⟩ := Option.bind_eq_some_iff.mp h1
      rw [List.length_cons, List.length_cons, g.len ds env1 env' b2]
theorem assign_len {env : PySem.Env} : ∀ es : List Expr, (assignEach es env).length = es.length
  | [] => rfl
  | e :: es => by cases e <;> exact congrArg (· + 1) (assign_len es)
theorem assign_plain {env : PySem.Env} : ∀ es : List Expr, es.all (fun e => !isStar e) = true → (assignEach es env).findIdx? (·.1) = none
  | [], _ => rfl
  | e :: es, h => by
    simp only [List.all_cons, Bool.and_eq_true, Bool.not_eq_true'] at h
    have e1 : assignEach (e :: es) env = (false, assign e env) :: assignEach es env := by cases e <;> first | rfl | cases h.1
    rw [e1, List.findIdx?_cons, assign_plain es h.2] <;> rfl
theorem jt_tup (hc : X.calm = true) {es : List Expr} {kk : Nat} {pos : Pos} {t : T} (g : JTs X B es t) : PG X (.Tuple es kk pos) (tGt X.K B (.tup t)) := by
  refine (pg_tup hc g.g (assign_len es) (assign_plain es g.st)).weak fun v σ H Q => ?_
  rintro ⟨env, s, O, Ha, kd, d, env', r, e, q, vr, h1, h2⟩
  cases d with
  | tuple ds =>
    have h1 : bindT t (.frz, .tuple ds) env = some env' := by simpa [bindT] using h1
    obtain ⟨a, vs, rfl, ea, ra⟩ := vr.tuple
    refine ⟨a, vs, rfl, ea, by rw [ra.len]; exact g.len ds env env' h1, env, s, O, ds, env', r.ext e q, q, ra, h1, fun σ' O' r' m' z' s' l' => h2 σ' O' r' ((r.hid e).trans m') z' s' l'⟩
  | _ => simp [bindT] at h1

/-! ### comprehensions -/
theorem wipe_out {σ : L2.St} {j : Nat} : ∀ {vs : List Nat}, j ∉ vs → (wipe σ vs)[j]? = σ[j]?
  | [], _ => rfl
  | v :: vs, h => by
    simp only [List.mem_cons, not_or] at h
    show ((wipe σ vs).set v none)[j]? = _
    rw [List.getElem?_set_ne (Ne.symm h.1)]
    exact wipe_out h.2
theorem wipe_in {σ : L2.St} {j : Nat} : ∀ {vs : List Nat}, j ∈ vs → j < σ.length → (wipe σ vs)[j]? = some none
  | v :: vs, h, hl => by
    show ((wipe σ vs).set v none)[j]? = _
    by_cases e : v = j
    · subst e
      rw [List.getElem?_set_self (by rw [wipe_length]; exact hl)]
    · rw [List.getElem?_set_ne e]
      rcases List.mem_cons.mp h with h | h
      · exact absurd h.symm e
      · exact wipe_in h hl
theorem wipe_eq {σ σ' : L2.St} {vs : List Nat} (hl : σ'.length = σ.length) (h : ∀ j, j ∉ vs → σ'[j]? = (wipe σ vs)[j]?) : wipe σ' vs = wipe σ vs := by
  apply List.ext_getElem?
  intro j
  by_cases hj : j ∈ vs
  · by_cases hl2 : j < σ.length
    · rw [wipe_in hj hl2, wipe_in hj (by rw [hl]; exact hl2)]
    · rw [List.getElem?_eq_none (by rw [wipe_length, hl]; omega), List.getElem?_eq_none (by rw [wipe_length]; omega)]
  · rw [wipe_out hj, h j hj]
theorem HX.blk (hx : HX C k fns cns X) {s : Shared} {H : Hp} {scope : Scope} {cenv : PySem.Env} {fp : List Addr} : HX C k fns cns (X.blk s H scope cenv fp) := ⟨hx.nd, hx.calm, hx.guards, hx.room, hx.blt, hx.fn, hx.cn⟩
abbrev W0 : WX := fun _ _ _ _ => False
theorem je_lc (hx : HX C k fns cns X) {elt tg iter : Expr} {ifs : List Expr} {scope : Scope} {own : List (Str × Nat)} {pos : Pos} {tt ti tc te : T} (hi : PI X tg iter (tI C X.K B W ti)) (ok : BlkOk X.N X.env.scope scope own) (hsl : ∀ j ∈ slotsT tt, j ∈ own.map (·.2))
    (hg : ∀ (s : Shared) (H : Hp) (A : Addr) (cl : List (Str × Addr)) (fp : List Addr), PG (X.blk s H scope (compEnvC scope cl A X.env) fp) tg (tGt X.K B tt))
    (ht : ∀ (s : Shared) (H : Hp) (A : Addr) (cl : List (Str × Addr)) (fp : List Addr), PTs (X.blk s H scope (compEnvC scope cl A X.env) fp) ifs (tT C X.K B W0 tc))
    (he : ∀ (s : Shared) (H : Hp) (A : Addr) (cl : List (Str × Addr)) (fp : List Addr), PE (X.blk s H scope (compEnvC scope cl A X.env) fp) elt (tE C X.K B W0 te))
    (hs : ∀ x, foldedSetIterable iter X.env x = pure x) :
    PE X (.ListComp elt [⟨tg, iter, ifs, 0⟩] scope pos) (tE C X.K B W (.lc tt ti tc te (own.map (·.2)))) ∧
    (∀ σ H Q, tE C X.K B W (.lc tt ti tc te (own.map (·.2))) σ H Q → tLc (tI C X.K B W ti) (tGt X.K B tt) (tT C X.K B W0 tc) (tE C X.K B W0 te) (own.map (·.2)) σ H Q) := by
  have key : ∀ σ H Q, tE C X.K B W (.lc tt ti tc te (own.map (·.2))) σ H Q → tLc (tI C X.K B W ti) (tGt X.K B tt) (tT C X.K B W0 tc) (tE C X.K B W0 te) (own.map (·.2)) σ H Q := by
    intro σ H Q
    generalize hws : own.map (·.2) = ws at hsl ⊢
    rintro ⟨env, s, O, r, q, h⟩
    unfold evE at h
    refine ⟨env, s, O, r, q, h.bind.mono (fun xs s1 h1 => ?_) fun _ _ _ z => z⟩
    intro H1 J e1 q1 wk D nD
    by_cases hsz : xs.2.length ≤ sizeLine
    case neg => rw [if_neg hsz] at h1; exact h1.elim
    rw [if_pos hsz] at h1
    have h1 := h1.bind
    have r1 := r.ext e1 q1
    have nD1 := r1.nsrc nD
    have nH0 : B.H0 D = none := r1.same.free q1 nD
    have OD : ∀ a, O a → a ≠ D := fun a h z => by subst z; exact r1.dom _ h nD
    -- the block's own slots, the new list hidden
    have rb : B.Rl X.K (fun b => O b ∨ b = D) (klE env ws) (wipe σ ws) (upd H1 D (.lst [])) :=
      (r1.hideNew (Ex.new nD) (q1.same (same_new nD)) nD (by rw [upd_same]; exact fun z => nomatch z)).wipe ws
    have rb1 := r1.wipe ws
    have ns : ∀ (i : Nat) (d : Tre.D), (klE env ws)[i]? = some (Slot.d true d) → (wipe σ ws)[i]? ≠ some (some (V.ref D)) := fun i d x1 x2 => by
      obtain ⟨_, _, _, p, _⟩ := rb1.owned x1 x2
      rw [nD] at p; cases p
    obtain ⟨Gd, Y, w, wg, wy⟩ := wk
    let Pv : Nat → Hp → Prop := fun i H' => ∃ s' acc ys, SrcR B.S H' s' ∧ Ex B.S H1 H' ∧ B.Rl X.K (fun b => O b ∨ b = D) (klE env ws) (wipe σ ws) H' ∧ H' D = some (.lst acc) ∧ RpA X.K (hide H' fun b => O b ∨ b = D) acc ys ∧ acc.length ≤ i ∧
      RQ (compL (fun x s => (R.of (bindT tt (.frz, x) (klE env ws)) s).bind fun env' s => (evE C.Φ C.G tc env' s).calm.bind fun b s => if truth b.2 then (evE C.Φ C.G te env' s).calm.bind fun y s => (if y.1 = .peek then .stuck else .ok (some y.2) s) else .ok none s) (xs.2.drop i) s')
        (fun rest s'' => ∀ v H', Ex B.S H H' → SrcR B.S H' s'' → VR X.K B.S O H H' .own v (.list (ys ++ rest)) → Q v H') (wX C X.K B W σ H)
    have good : ∀ H', Ex B.S H1 H' → Good B.S O H1 xs.1 H' := fun H' e => by
      cases xs.1 with
      | true => exact e
      | false => exact ⟨O, r1.hid e⟩
    refine lc_it w Pv ⟨s1, [], [], q1.same (same_new nD), Ex.new nD, rb, upd_same, .nil, Nat.le_refl _, by simp only [List.drop_zero, List.nil_append]; exact h1⟩ (fun i H' _ p => ?_) (fun i x H' H'' hi p y => ?_) fun H' p => ?_
    · obtain ⟨s', acc, ys, _, e', _⟩ := p
      exact wg H' (good H' e')
    · obtain ⟨s', acc, ys, q', e', rr, hD, ra, hl, hq⟩ := p
      obtain ⟨d, hd, sm, rd⟩ := wy i x H' H'' (fun b => O b ∨ b = D) hi (good H' e') y rr.dom (hide_same (fun a o na ha => e' a o ha (r.nO na)) fun b z nb => z.elim (fun z => absurd z nb) fun z => by subst z; exact nD)
      have hdrop : xs.2.drop i = d :: xs.2.drop (i + 1) := by
        obtain ⟨h1, h2⟩ := List.getElem?_eq_some_iff.mp hd
        rw [← h2]
        exact List.drop_eq_getElem_cons h1
      rw [hdrop] at hq
      unfold compL at hq
      obtain ⟨env', b1, hq⟩ := hq.bind.bind.of
      have q'' := q'.same sm
      refine ⟨klE env ws, s', _, H', .frz, d, env', rr, .of sm, q'', rd, b1, fun σ2 O2 r2 m2 z2 sl2 l2 => ⟨?_, ?_⟩⟩
      · refine wipe_eq (by rw [l2, wipe_length]) fun j hj => sl2 j fun z => hj (hsl j z)
      · refine ⟨env', s', O2, r2, q'', (hq.bind.calm (W' := wX C X.K B W0 σ2 H'')).mono (fun b s3 hq H3 e3 q3 => ?_) fun _ _ _ z => z⟩
        have e03 := e'.trans ((Ex.of sm).trans e3)
        have e3' : Ex B.S H' H3 := (Ex.of sm).trans e3
        by_cases hk : truth b.2 = true
        · rw [if_pos hk] at hq
          show (if truth b.2 = true then _ else _)
          rw [if_pos hk]
          refine ⟨env', s3, O2, r2.ext e3 q3, q3, (hq.bind.calm (W' := wX C X.K B W0 σ2 H3)).mono (fun y s4 hq u H4 e4 q4 v4 => ?_) fun _ _ _ z => z⟩
          by_cases hp : y.1 = .peek
          · rw [if_pos hp] at hq; exact hq.elim
          rw [if_neg hp] at hq
          have e4' : Ex B.S H' H4 := e3'.trans e4
          have hD4 : H4 D = some (.lst acc) := e4' D _ hD nD1
          have r4 := rr.ext e4' q4
          -- what the element shows does not lead to the new list
          have ru : Rp X.K (hide H4 fun b => O b ∨ b = D) u y.2 := (v4.frz (r2.ext e3 q3).dom hp).mono (hide_less z2)
          refine ⟨acc, hD4, by omega, s4, acc ++ [u], ys ++ [y.2], q4.poke ⟨nD1, _, hD4⟩, fun a o ha n1 => ?_, r4.poke (.inr rfl) nH0 ns, upd_same, ?_, by rw [List.length_append]; simp; omega, ?_⟩
          · rw [upd_ne (fun z => by subst z; rw [nD] at ha; cases ha)]
            exact (e'.trans e4') a o ha n1
          · rw [hide_upd (.inr rfl)]
            exact (ra.mono (rr.hid e4')).app (.one ru)
          · have hq : RQ ((compL _ (xs.2.drop (i + 1)) s4).bind fun r s2 => .ok (y.2 :: r) s2) _ _ := hq
            refine hq.bind.mono (fun rest s5 hq => ?_) fun _ _ _ z => z
            rw [List.append_assoc]
            exact hq
        · rw [if_neg hk] at hq
          show (if truth b.2 = true then _ else _)
          rw [if_neg hk]
          have hq : RQ ((compL _ (xs.2.drop (i + 1)) s3).bind fun r s2 => .ok r s2) _ _ := hq
          refine ⟨s3, acc, ys, q3, e03, rr.ext e3' q3, e3' D _ hD nD1, ra.mono (rr.hid e3'), by omega, hq.bind.mono (fun rest s5 hq => hq) fun _ _ _ z => z⟩
    · obtain ⟨s', acc, ys, q', e', rr, hD, ra, hl, hq⟩ := p
      rw [List.drop_length] at hq
      have hq : ∀ v H'', Ex B.S H H'' → SrcR B.S H'' s' → VR X.K B.S O H H'' .own v (.list (ys ++ [])) → Q v H'' := hq
      rw [List.append_nil] at hq
      exact hq _ H' (e1.trans e') q' ⟨D, acc, ys, rfl, rfl, e1.free q1 nD, hD, ra⟩
  exact ⟨(pe_lc hx.calm hx.nd hi ok hg ht he hs).weak key, key⟩
end
end Tre
/-! Tre9: statements. -/
namespace Tre
open PySem PySem.Spec PyProof.Rows L2

/-- what is wanted behind a statement -/
def SPost (K : PySem.W.Frag) (B : Bx) (O : Addr → Prop) (H : Hp) (N : Ends) : Fl → Src → Prop
  | .next env', s' => ∀ σ' H' O', B.Rl K O' env' σ' H' → SrcR B.S H' s' → Same (hide H O) (hide H' O') → N.nx σ' H'
  | .brk env', s' => ∀ σ' H' O', B.Rl K O' env' σ' H' → SrcR B.S H' s' → Same (hide H O) (hide H' O') → N.bk σ' H'
  | .cnt env', s' => ∀ σ' H' O', B.Rl K O' env' σ' H' → SrcR B.S H' s' → Same (hide H O) (hide H' O') → N.ct σ' H'
  | .ret o d, s' => ∀ v H', Ex B.S B.H0 H' → SrcR B.S H' s' → VR K B.S B.O0 B.H0 H' (if o then .own else .frz) v d → N.rt v H'
theorem SPost.from {K : PySem.W.Frag} {B : Bx} {O O1 : Addr → Prop} {H H1 : Hp} {N : Ends} {fl : Fl} {s' : Src} (m : Same (hide H O) (hide H1 O1)) (h : SPost K B O H N fl s') : SPost K B O1 H1 N fl s' := by
  cases fl with
  | next env' => exact fun σ' H' O' r q m' => h σ' H' O' r q (m.trans m')
  | brk env' => exact fun σ' H' O' r q m' => h σ' H' O' r q (m.trans m')
  | cnt env' => exact fun σ' H' O' r q m' => h σ' H' O' r q (m.trans m')
  | ret o d => exact h
def wS (C : Cf) (K : PySem.W.Frag) (B : Bx) (W : WX) : Nat → List D → Src → Prop := fun c a s' => ∀ σ' H' cls d, Ex B.S B.H0 H' → SrcR B.S H' s' → XR K C.Xn H' c a cls d → W cls d σ' H'
def tS (C : Cf) (K : PySem.W.Frag) (B : Bx) (W : WX) (t : T) : TS := fun N σ H => ∃ env s O, B.Rl K O env σ H ∧ SrcR B.S H s ∧ RQ (evS C.Φ C.G t env s) (SPost K B O H N) (wS C K B W)
theorem wS.x {C : Cf} {K : PySem.W.Frag} {B : Bx} {W : WX} {O : Addr → Prop} {env : Env} {σ : L2.St} {H : Hp} (r : B.Rl K O env σ H) {c : Nat} {a : List D} {s' : Src} (h : wS C K B W c a s') : wX C K B W σ H c a s' :=
  fun H' cls d e q x => h σ H' cls d (r.same.trans e) q x
theorem _root_.L2.PS.weak {X : Cx} {e : Stmt} {t t' : TS} (h : PS X e t) (m : ∀ N σ H, t' N σ H → t N σ H) : PS X e t' := ⟨fun pins s σ H N I q => h.run pins s σ H N I (m N σ H q)⟩
theorem _root_.L2.PSs.weak {X : Cx} {e : List Stmt} {t t' : TS} (h : PSs X e t) (m : ∀ N σ H, t' N σ H → t N σ H) : PSs X e t' := ⟨fun pins s σ H N I q => h.run pins s σ H N I (m N σ H q)⟩

section
variable {K : PySem.W.Frag} {B : Bx} {O : Addr → Prop} {H : Hp} {env : Env} {σ : L2.St} {s : Src}
/-- what a slot owns is shown -/
theorem Rl.fz1 (r : B.Rl K O env σ H) (i : Nat) {o : Bool} {d : D} (e : env[i]? = some (.d o d)) : ∃ O', B.Rl K O' (env.set i (.d false d)) σ H ∧ Same (hide H O) (hide H O') := by
  cases o with
  | false => exact ⟨O, by rw [set_get_self env i _ e]; exact r, Same.refl _⟩
  | true =>
    have hi : i < env.length := (List.getElem?_eq_some_iff.mp e).1
    have hiσ : i < σ.length := by rw [← r.len]; exact hi
    have e2 : σ[i]? = some σ[i] := List.getElem?_eq_getElem hiσ
    obtain ⟨a, vs, ds, e3, rfl, p1, p2, p3, p4, p5⟩ := r.slots i _ _ e e2
    rw [e3] at e2
    have less : ∀ b, (O b ∧ b ≠ a) → O b := fun b h => h.1
    refine ⟨fun b => O b ∧ b ≠ a, ⟨by rw [List.length_set]; exact r.len, r.so, fun b h => ⟨r.sub b h, fun z => p4 (by rw [← z]; exact h)⟩, fun b h => r.dom b h.1, r.dom0, r.same, fun j x p x1 x2 => ?_, fun j l d1 d2 b x1 x2 x3 x4 => ?_⟩, hide_less less⟩
    · by_cases hj : i = j
      · subst hj
        rw [List.getElem?_set_self hi] at x1
        cases x1
        rw [e2] at x2
        cases x2
        exact ⟨_, rfl, .lst (by rw [hide_out (fun z => z.2 rfl)]; exact p1) (p2.mono (hide_less less))⟩
      · rw [List.getElem?_set_ne hj] at x1
        have q := r.slots j x p x1 x2
        cases x with
        | e => trivial
        | src => exact q
        | d k d =>
          cases k with
          | false =>
            obtain ⟨v, rfl, q⟩ := q
            exact ⟨v, rfl, q.mono (hide_less less)⟩
          | true =>
            obtain ⟨b, ws, es, rfl, rfl, q1, q2, q3, q4, q5⟩ := q
            refine ⟨b, ws, es, rfl, rfl, q1, q2.mono (hide_less less), ⟨q3, fun z => ?_⟩, q4, q5⟩
            subst z
            exact hj (r.inj i j _ _ _ e x1 e2 x2)
    · have ne : ∀ (m : Nat) (dd : D), (env.set i (Slot.d false (.list ds)))[m]? = some (Slot.d true dd) → i ≠ m := fun m dd q z => by
        subst z
        rw [List.getElem?_set_self hi] at q
        cases q
      have n1 := ne j d1 x1
      have n2 := ne l d2 x2
      rw [List.getElem?_set_ne n1] at x1
      rw [List.getElem?_set_ne n2] at x2
      exact r.inj j l d1 d2 b x1 x2 x3 x4
theorem Rl.fz (r : B.Rl K O env σ H) : ∀ is : List Nat, ∃ O', B.Rl K O' (fzE env is) σ H ∧ Same (hide H O) (hide H O')
  | [] => ⟨O, r, Same.refl _⟩
  | i :: is => by
    obtain ⟨O1, r1, m1⟩ := Rl.fz r is
    show ∃ O', B.Rl K O' (match (fzE env is)[i]? with
      | some (.d _ x) => (fzE env is).set i (.d false x)
      | _ => fzE env is) σ H ∧ _
    cases e : (fzE env is)[i]? with
    | none => exact ⟨O1, r1, m1⟩
    | some sl =>
      cases sl with
      | e => exact ⟨O1, r1, m1⟩
      | src => exact ⟨O1, r1, m1⟩
      | d o x =>
        obtain ⟨O2, r2, m2⟩ := r1.fz1 i e
        exact ⟨O2, r2, m1.trans m2⟩
/-- the owned list of a slot is written -/
theorem Rl.write (r : B.Rl K O env σ H) {i : Nat} {d : D} {a : Addr} {vs : List V} {ds : List D} (e1 : env[i]? = some (.d true d)) (e2 : σ[i]? = some (some (.ref a))) (h : RpA K (hide H O) vs ds) :
    B.Rl K O (env.set i (.d true (.list ds))) σ (upd H a (.lst vs)) ∧ Same (hide H O) (hide (upd H a (.lst vs)) O) ∧ Pk B.S H a := by
  obtain ⟨ws, es, rfl, p1, p2, p3, p4, p5⟩ := r.owned e1 e2
  have n1 : ¬ B.S.Out a := r.nO0 p4
  have hi : i < env.length := (List.getElem?_eq_some_iff.mp e1).1
  refine ⟨⟨by rw [List.length_set]; exact r.len, r.so, r.sub, fun b hb => ?_, r.dom0, fun b p x1 x2 => ?_, fun j x p x1 x2 => ?_, fun j l d1 d2 b x1 x2 x3 x4 => ?_⟩, by rw [hide_upd p3]; exact Same.refl _, n1, _, p1⟩
  · by_cases e : b = a
    · subst e; rw [upd_same]; exact fun z => nomatch z
    · rw [upd_ne e]; exact r.dom b hb
  · rw [upd_ne (fun z => by subst z; rw [p5] at x1; cases x1)]
    exact r.same b p x1 x2
  · by_cases hj : i = j
    · subst hj
      rw [List.getElem?_set_self hi] at x1
      cases x1
      rw [e2] at x2
      cases x2
      exact ⟨a, vs, ds, rfl, rfl, upd_same, by rw [hide_upd p3]; exact h, p3, p4, p5⟩
    · rw [List.getElem?_set_ne hj] at x1
      have q := r.slots j x p x1 x2
      cases x with
      | e => trivial
      | src => exact q
      | d k d =>
        cases k with
        | false =>
          obtain ⟨v, rfl, q⟩ := q
          exact ⟨v, rfl, by rw [hide_upd p3]; exact q⟩
        | true =>
          obtain ⟨b, ws', es', rfl, rfl, q1, q2, q3, q4, q5⟩ := q
          refine ⟨b, ws', es', rfl, rfl, ?_, by rw [hide_upd p3]; exact q2, q3, q4, q5⟩
          rw [upd_ne (fun z => by subst z; exact hj (r.inj i j _ _ _ e1 x1 e2 x2))]
          exact q1
  · have red : ∀ (m : Nat) (dd : D), (env.set i (Slot.d true (.list ds)))[m]? = some (Slot.d true dd) → ∃ d' : D, env[m]? = some (Slot.d true d') := fun m dd q => by
      by_cases hm : i = m
      · subst hm; exact ⟨_, e1⟩
      · rw [List.getElem?_set_ne hm] at q
        exact ⟨_, q⟩
    obtain ⟨d1', y1⟩ := red j d1 x1
    obtain ⟨d2', y2⟩ := red l d2 x2
    exact r.inj j l d1' d2' b y1 y2 x3 x4
theorem ownL_some {i : Nat} {ds : List D} (h : ownL env i = some ds) : env[i]? = some (.d true (.list ds)) := by
  unfold ownL at h
  split at h
  · cases h; assumption
  · cases h
theorem Rl.own (r : B.Rl K O env σ H) {i : Nat} {ds : List D} (h : ownL env i = some ds) : ∃ a vs, σ[i]? = some (some (.ref a)) ∧ H a = some (.lst vs) ∧ RpA K (hide H O) vs ds := by
  have e := ownL_some h
  have hi : i < env.length := (List.getElem?_eq_some_iff.mp e).1
  have hiσ : i < σ.length := by rw [← r.len]; exact hi
  have e2 : σ[i]? = some σ[i] := List.getElem?_eq_getElem hiσ
  obtain ⟨a, vs, ds', e3, e4, p1, p2, _⟩ := r.slots i _ _ e e2
  cases e4
  exact ⟨a, vs, by rw [e2, e3], p1, p2⟩
end

/-- where statements stand -/
structure SX (C : Cf) (k : Nat) (fns cns : List Str) (X : Cx) (W : WX) : Prop where
  hx : HX C k fns cns X
  tk : Takes X W
  hp : PassesOwn (model X.prog X.w) X.A X.env X.xe
  fn : ∀ x, X.fn x = true
  kind : X.env.scope.kind = .function
  xc : ∀ (c : Nat) (x : Str) (ar : Nat), C.xcs[c]? = some (x, ar) → XcOk C X c x ar

section
variable {C : Cf} {k : Nat} {fns cns : List Str} {X : Cx} {B : Bx} {W : WX}
/-! ### blocks -/
theorem jss_nil : PSs X [] (tS C X.K B W .nil) := by
  refine pss_nil.weak fun N σ H => ?_
  rintro ⟨env, s, O, r, q, h⟩
  exact h σ H O r q (Same.refl _)
theorem jss_cons {st : Stmt} {rest : List Stmt} {t u : T} (h1 : PS X st (tS C X.K B W t)) (h2 : PSs X rest (tS C X.K B W u)) : PSs X (st :: rest) (tS C X.K B W (.seq t u)) := by
  refine (pss_cons h1 h2).weak fun N σ H => ?_
  rintro ⟨env, s, O, r, q, h⟩
  unfold evS at h
  refine ⟨env, s, O, r, q, h.bind.mono (fun fl s1 h1 => ?_) fun _ _ _ z => z⟩
  cases fl with
  | next env' => exact fun σ' H' O' r' q' m' => ⟨env', s1, O', r', q', RQ.mono h1 (fun fl s2 h2 => h2.from m') fun _ _ _ z => z⟩
  | brk env' => exact h1
  | cnt env' => exact h1
  | ret o d => exact h1
theorem jss_fz {sts : List Stmt} {is : List Nat} {t : T} (h : PSs X sts (tS C X.K B W t)) : PSs X sts (tS C X.K B W (.fz is t)) := by
  refine h.weak fun N σ H => ?_
  rintro ⟨env, s, O, r, q, h⟩
  unfold evS at h
  obtain ⟨O1, r1, m1⟩ := r.fz is
  exact ⟨fzE env is, s, O1, r1, q, h.mono (fun fl s2 h2 => h2.from m1) fun _ _ _ z => z⟩
theorem jss_kl {sts : List Stmt} {is : List Nat} {t : T} (h : PSs X sts (tS C X.K B W t)) : PSs X sts (tS C X.K B W (.kl is t)) := by
  refine h.weak fun N σ H => ?_
  rintro ⟨env, s, O, r, q, h⟩
  unfold evS at h
  exact ⟨klE env is, s, O, r.kl is, q, h⟩
theorem js_pass {pos : Pos} : PS X (.Pass pos) (tS C X.K B W .pass) := by
  refine ps_pass.weak fun N σ H => ?_
  rintro ⟨env, s, O, r, q, h⟩
  exact h σ H O r q (Same.refl _)
theorem js_brk {pos : Pos} : PS X (.Break pos) (tS C X.K B W .brk) := by
  refine ps_break.weak fun N σ H => ?_
  rintro ⟨env, s, O, r, q, h⟩
  exact h σ H O r q (Same.refl _)
theorem js_cnt {pos : Pos} : PS X (.Continue pos) (tS C X.K B W .cnt) := by
  refine ps_continue.weak fun N σ H => ?_
  rintro ⟨env, s, O, r, q, h⟩
  exact h σ H O r q (Same.refl _)

/-! ### values -/
theorem js_ex {e : Expr} {t : T} {pos : Pos} (he : JE C X B W e t) (hs : swapsWith e none pos.line X.env = pure false) : PS X (.Expr e pos) (tS C X.K B W (.ex t)) := by
  refine (ps_expr he.e hs).weak fun N σ H => ?_
  rintro ⟨env, s, O, r, q, h⟩
  unfold evS at h
  refine eOne r q (h.bind.mono (fun x s1 h1 => ?_) fun _ _ _ z => wS.x r z)
  intro u H1 e1 q1 v1
  exact h1 σ H1 O (r.ext e1 q1) q1 (r.hid e1)
theorem ret_vr {O : Addr → Prop} {env : Env} {σ : L2.St} {H H1 : Hp} {kd : Kd} {u : V} {d : D} {s1 : Src} (r : B.Rl X.K O env σ H) (e1 : Ex B.S H H1) (q1 : SrcR B.S H1 s1) (v1 : VR X.K B.S O H H1 kd u d) (hk : kd ≠ .peek) :
    VR X.K B.S B.O0 B.H0 H1 (if decide (kd = .own) then .own else .frz) u d := by
  cases kd with
  | peek => contradiction
  | frz => exact Rp.mono (hide_less fun a z => r.sub a z) v1
  | own =>
    obtain ⟨a, vs, ds, rfl, rfl, n, t, p⟩ := v1
    have n1 := r.nsrc n
    refine ⟨a, vs, ds, rfl, rfl, ?_, t, p.mono (hide_less fun b z => z.elim (fun z => .inl (r.sub b z)) .inr)⟩
    cases p0 : B.H0 a with
    | none => rfl
    | some o => rw [r.same a o p0 n1] at n; cases n
theorem js_ret {e : Expr} {t : T} {pos : Pos} (he : JE C X B W e t) : PS X (.Return (some e) pos) (tS C X.K B W (.ret t)) := by
  refine (ps_ret he.e).weak fun N σ H => ?_
  rintro ⟨env, s, O, r, q, h⟩
  unfold evS at h
  refine eOne r q (h.bind.mono (fun x s1 h1 => ?_) fun _ _ _ z => wS.x r z)
  intro u H1 e1 q1 v1
  by_cases hk : x.1 = .peek
  · rw [if_pos hk] at h1; exact h1.elim
  rw [if_neg hk] at h1
  exact h1 u H1 (r.same.trans e1) q1 (ret_vr r e1 q1 v1 hk)
theorem js_retv {i : Nat} {x : Str} {pos ps : Pos} (hN : X.N[i]? = some x) (hv : Vis X.env.scope x) (hd : (x == ("__debug__" : Str)) = false) (hcd : (x == ("__classdict__" : Str)) = false) : PS X (.Return (some (.Name x ps)) pos) (tS C X.K B W (.retv i)) := by
  refine (ps_ret (pe_var hN hv hd hcd)).weak fun N σ H => ?_
  rintro ⟨env, s, O, r, q, h⟩
  unfold evS at h
  split at h
  · rename_i o d e1
    have hi : i < σ.length := by
      rw [← r.len]
      exact (List.getElem?_eq_some_iff.mp e1).1
    have e2 : σ[i]? = some σ[i] := List.getElem?_eq_getElem hi
    have so := r.slots i _ _ e1 e2
    cases o with
    | false =>
      obtain ⟨v, e3, p⟩ := so
      exact ⟨v, by rw [e2, e3], h v H r.same q (Rp.mono (hide_less fun a z => r.sub a z) p)⟩
    | true =>
      obtain ⟨a, vs, ds, e3, rfl, p1, p2, p3, p4, p5⟩ := so
      refine ⟨_, by rw [e2, e3], h _ H r.same q ⟨a, vs, ds, rfl, rfl, p5, p1, p2.mono (hide_less fun b z => ?_)⟩⟩
      rcases z with z | rfl
      · exact r.sub b z
      · exact p3
  · exact h.elim
theorem js_retn {pos : Pos} : PS X (.Return none pos) (tS C X.K B W .retn) := by
  refine ps_retN.weak fun N σ H => ?_
  rintro ⟨env, s, O, r, q, h⟩
  exact h .non H r.same q Rp.non

/-! ### tests and loops -/
theorem js_ifs {c : Expr} {a b : List Stmt} {tc ta tb : T} {pos : Pos} (hc : JE C X B W c tc) (ha : PSs X a (tS C X.K B W ta)) (hb : PSs X b (tS C X.K B W tb)) : PS X (.If c a b pos) (tS C X.K B W (.ifs tc ta tb)) := by
  refine (ps_if hc.t ha hb).weak fun N σ H => ?_
  rintro ⟨env, s, O, r, q, h⟩
  unfold evS at h
  refine ⟨env, s, O, r, q, h.bind.mono (fun x s1 h1 H1 e1 q1 => ?_) fun _ _ _ z => wS.x r z⟩
  have m1 := r.hid e1
  by_cases hk : truth x.2 = true
  · rw [if_pos hk] at h1
    show (if truth x.2 = true then _ else _)
    rw [if_pos hk]
    exact ⟨env, s1, O, r.ext e1 q1, q1, h1.mono (fun fl s2 h2 => h2.from m1) fun _ _ _ z => z⟩
  · rw [if_neg hk] at h1
    show (if truth x.2 = true then _ else _)
    rw [if_neg hk]
    exact ⟨env, s1, O, r.ext e1 q1, q1, h1.mono (fun fl s2 h2 => h2.from m1) fun _ _ _ z => z⟩
theorem js_for (sx : SX C k fns cns X W) {tg iter : Expr} {body : List Stmt} {tt ti tb : T} {pos : Pos} (hi : PI X tg iter (tI C X.K B W ti)) (hg : PG X tg (tGt X.K B tt)) (hb : PSs X body (tS C X.K B W tb)) (hs : ∀ x, foldedSetIterable iter X.env x = pure x) :
    PS X (.For tg iter body [] pos) (tS C X.K B W (.for tt ti tb)) := by
  refine (ps_for sx.hp sx.hx.calm hi hg hb hs).weak fun N σ H => ?_
  rintro ⟨env, s, O, r, q, h⟩
  unfold evS at h
  refine ⟨env, s, O, r, q, h.bind.mono (fun xs s1 h1 => ?_) fun _ _ _ z => wS.x r z⟩
  intro H1 J e1 q1 wk
  obtain ⟨pk, ds⟩ := xs
  cases pk with
  | true => exact h1.elim
  | false =>
    have h1 : RQ (forL (fun x env s => (R.of (bindT tt (.frz, x) env) s).bind fun env' s => evS C.Φ C.G tb env' s) ds env s1) (SPost X.K B O H N) (wS C X.K B W) := h1
    obtain ⟨Gd, Y, w, wg, wy⟩ := wk
    have m01 := r.hid e1
    refine for_it w (fun i σ' H' => ∃ env' s' O', B.Rl X.K O' env' σ' H' ∧ SrcR B.S H' s' ∧ Same (hide H1 O) (hide H' O') ∧ RQ (forL (fun x env s => (R.of (bindT tt (.frz, x) env) s).bind fun env' s => evS C.Φ C.G tb env' s) (ds.drop i) env' s') (SPost X.K B O H N) (wS C X.K B W))
      ⟨env, s1, O, r.ext e1 q1, q1, Same.refl _, by rw [List.drop_zero]; exact h1⟩ (fun i σ' H' _ p => ?_) (fun i x σ' H' H'' hi p y => ?_) fun σ' H' p => ?_
    · obtain ⟨env', s', O', r', q', m', _⟩ := p
      exact wg H' ⟨O', m'⟩
    · obtain ⟨env', s', O', r', q', m', hq⟩ := p
      obtain ⟨d, hd, sm, rd⟩ := wy i x H' H'' O' hi ⟨O', m'⟩ y r'.dom m'
      have hdrop : ds.drop i = d :: ds.drop (i + 1) := by
        obtain ⟨h1, h2⟩ := List.getElem?_eq_some_iff.mp hd
        rw [← h2]
        exact List.drop_eq_getElem_cons h1
      rw [hdrop] at hq
      unfold forL at hq
      obtain ⟨env2, b1, hq⟩ := hq.bind.bind.of
      refine ⟨env', s', O', H', .frz, d, env2, r', .of sm, q'.same sm, rd, b1, fun σ2 O2 r2 m2 z2 _ _ => ?_⟩
      have m12 : Same (hide H1 O) (hide H'' O2) := m'.trans m2
      refine ⟨env2, s', O2, r2, q'.same sm, hq.mono (fun fl s3 h3 => ?_) fun _ _ _ z => z⟩
      cases fl with
      | next env3 => exact fun σ3 H3 O3 r3 q3 m3 => ⟨env3, s3, O3, r3, q3, m12.trans m3, h3⟩
      | cnt env3 => exact fun σ3 H3 O3 r3 q3 m3 => ⟨env3, s3, O3, r3, q3, m12.trans m3, h3⟩
      | brk env3 => exact fun σ3 H3 O3 r3 q3 m3 => h3 σ3 H3 O3 r3 q3 (m01.trans (m12.trans m3))
      | ret o d => exact h3
    · obtain ⟨env', s', O', r', q', m', hq⟩ := p
      rw [List.drop_length] at hq
      exact hq σ' H' O' r' q' (m01.trans m')
theorem js_wh (sx : SX C k fns cns X W) {c : Expr} {body : List Stmt} {z : List Nat} {tc tb : T} {pos : Pos} (hc : JE C X B W c tc) (hb : PSs X body (tS C X.K B W tb)) : PS X (.While c body [] pos) (tS C X.K B W (.wh z tc tb)) := by
  refine (ps_while sx.hp hc.t hb).weak fun N σ H => ?_
  rintro ⟨env, s, O, r, q, h⟩
  unfold evS whR at h
  split at h
  case isFalse => exact h.elim
  case isTrue ex =>
  generalize hr : ex.choose = res at h
  have hn := ex.choose_spec
  rw [hr] at hn
  obtain ⟨n0, hn⟩ := hn
  refine ⟨fun n σ' H' => ∃ env' s' O', B.Rl X.K O' env' σ' H' ∧ SrcR B.S H' s' ∧ Same (hide H O) (hide H' O') ∧ whN (fun env s => (evE C.Φ C.G tc env s).bind fun x s => .ok x.2 s) (fun env s => evS C.Φ C.G tb env s) z n env' s' = some res, ⟨n0, env, s, O, r, q, Same.refl _, hn⟩, ?_⟩
  rintro n σ' H' ⟨env', s', O', r', q', m', hn⟩
  cases n with
  | zero => cases hn
  | succ n =>
    unfold whN at hn
    obtain ⟨O1, r1, m1⟩ := r'.fz z
    refine ⟨fzE env' z, s', O1, r1, q', ?_⟩
    cases hE : evE C.Φ C.G tc (fzE env' z) s' with
    | stuck =>
      rw [hE] at hn
      cases hn
      exact h.elim
    | exc c a s1 =>
      rw [hE] at hn
      cases hn
      exact wS.x r1 h
    | ok x s1 =>
      rw [hE] at hn
      have hn : (if truth x.2 = true then _ else _) = some res := hn
      show ∀ H1, Ex B.S H' H1 → SrcR B.S H1 s1 → _
      intro H1 e1 q1
      have r2 := r1.ext e1 q1
      have m2 : Same (hide H O) (hide H1 O1) := m'.trans (m1.trans (r1.hid e1))
      by_cases hk : truth x.2 = true
      · rw [if_pos hk] at hn
        show (if truth x.2 = true then _ else _)
        rw [if_pos hk]
        refine ⟨fun σ3 H3 => ∃ env3 s3 O3, B.Rl X.K O3 env3 σ3 H3 ∧ SrcR B.S H3 s3 ∧ Same (hide H O) (hide H3 O3) ∧ whN (fun env s => (evE C.Φ C.G tc env s).bind fun x s => .ok x.2 s) (fun env s => evS C.Φ C.G tb env s) z n env3 s3 = some res,
          fun σ3 H3 h3 => ⟨n, Nat.lt_succ_self n, h3⟩, fzE env' z, s1, O1, r2, q1, ?_⟩
        cases hB : evS C.Φ C.G tb (fzE env' z) s1 with
        | stuck => rw [hB] at hn; cases hn; exact h.elim
        | exc c a s2 => rw [hB] at hn; cases hn; exact h
        | ok fl s2 =>
          rw [hB] at hn
          cases fl with
          | next env3 => exact fun σ3 H3 O3 r3 q3 m3 => ⟨env3, s2, O3, r3, q3, m2.trans m3, hn⟩
          | cnt env3 => exact fun σ3 H3 O3 r3 q3 m3 => ⟨env3, s2, O3, r3, q3, m2.trans m3, hn⟩
          | brk env3 => cases hn; exact fun σ3 H3 O3 r3 q3 m3 => h σ3 H3 O3 r3 q3 (m2.trans m3)
          | ret o d => cases hn; exact h
      · rw [if_neg hk] at hn
        show (if truth x.2 = true then _ else _)
        rw [if_neg hk]
        cases hn
        exact h σ' H1 O1 r2 q1 m2
end
end Tre
/-! Tre10: assignments, changes of owned lists. -/
namespace Tre
open PySem PySem.Spec PyProof.Rows L2

section
variable {C : Cf} {k : Nat} {fns cns : List Str} {X : Cx} {B : Bx} {W : WX}
theorem js_asg {tg e : Expr} {tt te : T} {pos : Pos} (he : JE C X B W e te) (hg : PG X tg (tGt X.K B tt)) (hs : swapsWithSole [tg] e pos.line X.env = pure false) (hw : swappedStores [tg] e X.env = pure none)
    (h1 : (assignEach [tg] X.env).map (·.2) = [assign tg X.env]) : PS X (.Assign [tg] e pos) (tS C X.K B W (.asg tt te)) := by
  refine (ps_asg he.e hg hs hw h1).weak fun N σ H => ?_
  rintro ⟨env, s, O, r, q, h⟩
  unfold evS at h
  refine eOne r q (h.bind.mono (fun x s1 h1 => ?_) fun _ _ _ z => wS.x r z)
  intro u H1 e1 q1 v1
  obtain ⟨fl, e2, h2⟩ := h1.of
  obtain ⟨env', e3, e4⟩ := Option.map_eq_some_iff.mp e2
  subst e4
  exact ⟨env, s1, O, H, x.1, x.2, env', r, e1, q1, v1, e3, fun σ' O' r' m' _ _ _ => h2 σ' H1 O' r' q1 m'⟩
/-- name = [..] where the store is the comprehension's own -/
theorem js_asgLc (sx : SX C k fns cns X W) {i : Nat} {y : Str} {elt tg iter : Expr} {ifs : List Expr} {scope : Scope} {own : List (Str × Nat)} {py pos spos : Pos} {t0 tt ti tc te : T} (ht0 : t0 = .v i ∨ t0 = .ov i) (hy : X.N[i]? = some y)
    (hyl : X.env.scope.names.lookup y = some .local) (hsw : swapsWith (.ListComp elt [⟨tg, iter, ifs, 0⟩] scope pos) (some (.Name y py)) spos.line X.env = pure true)
    (hi : PI X tg iter (tI C X.K B W ti)) (ok : BlkOk X.N X.env.scope scope own) (hsl : ∀ j ∈ slotsT tt, j ∈ own.map (·.2))
    (hg : ∀ (s : Shared) (H : Hp) (A : Addr) (cl : List (Str × Addr)) (fp : List Addr), PG (X.blk s H scope (compEnvC scope cl A X.env) fp) tg (tGt X.K B tt))
    (ht : ∀ (s : Shared) (H : Hp) (A : Addr) (cl : List (Str × Addr)) (fp : List Addr), PTs (X.blk s H scope (compEnvC scope cl A X.env) fp) ifs (tT C X.K B W0 tc))
    (he : ∀ (s : Shared) (H : Hp) (A : Addr) (cl : List (Str × Addr)) (fp : List Addr), PE (X.blk s H scope (compEnvC scope cl A X.env) fp) elt (tE C X.K B W0 te))
    (hs : ∀ x, foldedSetIterable iter X.env x = pure x) :
    PS X (.Assign [.Name y py] (.ListComp elt [⟨tg, iter, ifs, 0⟩] scope pos) spos) (tS C X.K B W (.asg t0 (.lc tt ti tc te (own.map (·.2))))) := by
  have key := (je_lc (W := W) (pos := pos) sx.hx hi ok hsl hg ht he hs).2
  refine (ps_setLc sx.hx.calm sx.hx.nd hy hyl hsw hi ok hg ht he hs).weak fun N σ H => ?_
  rintro ⟨env, s, O, r, q, h⟩
  unfold evS at h
  refine key σ H _ (eOne r q (h.bind.mono (fun x s1 h1 => ?_) fun _ _ _ z => wS.x r z))
  intro u H1 e1 q1 v1
  obtain ⟨fl, e2, h2⟩ := h1.of
  obtain ⟨env', e3, e4⟩ := Option.map_eq_some_iff.mp e2
  subst e4
  have fin : tGt X.K B t0 u σ H1 N.nx := ⟨env, s1, O, H, x.1, x.2, env', r, e1, q1, v1, e3, fun σ' O' r' m' _ _ _ => h2 σ' H1 O' r' q1 m'⟩
  rcases ht0 with rfl | rfl
  · exact name_v fin
  · exact name_ov fin

/-! ### several at once -/
/-- values to be stored, all of the new lists hidden -/
def VRc (K : PySem.W.Frag) (B : Bx) (O : Addr → Prop) (H : Hp) : List V → List (Kd × D) → Prop
  | [], [] => True
  | v :: vs, (.frz, d) :: xs => Rp K (hide H O) v d ∧ VRc K B O H vs xs
  | v :: vs, (.own, d) :: xs => (∃ a us ds, v = .ref a ∧ d = .list ds ∧ O a ∧ ¬ B.O0 a ∧ B.H0 a = none ∧ H a = some (.lst us) ∧ RpA K (hide H O) us ds) ∧ VRc K B O H vs xs
  | _ :: vs, (.peek, _) :: xs => VRc K B O H vs xs
  | _, _ => False
def owns : List V → List (Kd × D) → List Addr
  | .ref a :: vs, (.own, _) :: xs => a :: owns vs xs
  | _ :: vs, _ :: xs => owns vs xs
  | _, _ => []
def tP (C : Cf) (K : PySem.W.Frag) (B : Bx) (W : WX) (t : T) : TA := fun σ H Q => ∃ env s O, B.Rl K O env σ H ∧ SrcR B.S H s ∧ RQ (evA C.Φ C.G t env s) (fun xs s' =>
  ∀ vs H' O', B.Rl K O' env σ H' → SrcR B.S H' s' → Ex B.S H H' → Same (hide H O) (hide H' O') → (∀ a, O a → O' a) → VRc K B O' H' vs xs → (owns vs xs).Nodup → (∀ a ∈ owns vs xs, H a = none) → Q vs H') (wX C K B W σ H)
theorem VRc.len {K : PySem.W.Frag} {B : Bx} {O : Addr → Prop} {H : Hp} : ∀ {vs : List V} {xs : List (Kd × D)}, VRc K B O H vs xs → vs.length = xs.length
  | [], [], _ => rfl
  | _ :: vs, (.frz, _) :: xs, h => congrArg (· + 1) (VRc.len h.2)
  | _ :: vs, (.own, _) :: xs, h => congrArg (· + 1) (VRc.len h.2)
  | _ :: vs, (.peek, _) :: xs, h => congrArg (· + 1) (VRc.len (vs := vs) (xs := xs) h)
  | [], _ :: _, h => h.elim
  | _ :: _, [], h => h.elim
theorem jp_nil : PA X [] (tP C X.K B W .nil) := by
  refine pa_nil.weak fun σ H Q => ?_
  rintro ⟨env, s, O, r, q, h⟩
  exact h [] H O r q (Ex.refl _ _) (Same.refl _) (fun _ z => z) trivial .nil (fun _ z => nomatch z)
theorem jp_cons {e : Expr} {es : List Expr} {t u : T} (he : JE C X B W e t) (hr : PA X es (tP C X.K B W u)) (hs : isStar e = false) : PA X (e :: es) (tP C X.K B W (.cons t u)) := by
  refine (pa_cons he.e hr (star_cons hs)).weak fun σ H Q => ?_
  rintro ⟨env, s, O, r, q, h⟩
  unfold evA at h
  refine eOne r q (h.bind.mono (fun x s1 h1 => ?_) fun _ _ _ z => z)
  intro v H1 e1 q1 v1
  obtain ⟨kd, d⟩ := x
  have r1 := r.ext e1 q1
  cases kd with
  | frz =>
    refine ⟨env, s1, O, r1, q1, h1.bind.mono (fun xs s2 h2 => ?_) fun c a s' z => wX.ext (s1 := s1) e1 z⟩
    intro vs H2 O2 r2 q2 e2 m2 z2 v2 n2 f2
    have ow : owns (v :: vs) ((Kd.frz, d) :: xs) = owns vs xs := by cases v <;> rfl
    exact h2 (v :: vs) H2 O2 r2 q2 (e1.trans e2) ((r.hid e1).trans m2) z2 ⟨Rp.mono m2 v1, v2⟩ (by rw [ow]; exact n2) (by rw [ow]; exact fun a ha => e1.free q1 (f2 a ha))
  | peek =>
    refine ⟨env, s1, O, r1, q1, h1.bind.mono (fun xs s2 h2 => ?_) fun c a s' z => wX.ext (s1 := s1) e1 z⟩
    intro vs H2 O2 r2 q2 e2 m2 z2 v2 n2 f2
    have ow : owns (v :: vs) ((Kd.peek, d) :: xs) = owns vs xs := by cases v <;> rfl
    exact h2 (v :: vs) H2 O2 r2 q2 (e1.trans e2) ((r.hid e1).trans m2) z2 v2 (by rw [ow]; exact n2) (by rw [ow]; exact fun a ha => e1.free q1 (f2 a ha))
  | own =>
    obtain ⟨a, us, ds, rfl, rfl, n, t, p⟩ := v1
    have n1 := r.nsrc n
    have rh := r.hideNew e1 q1 n (by rw [t]; exact fun z => nomatch z)
    refine ⟨env, s1, _, rh, q1, h1.bind.mono (fun xs s2 h2 => ?_) fun c a s' z => wX.ext (s1 := s1) e1 z⟩
    intro vs H2 O2 r2 q2 e2 m2 z2 v2 n2 f2
    have m1 : Same (hide H O) (hide H1 fun b => O b ∨ b = a) := hide_same (fun b o nb hb => e1 b o hb (r.nO nb)) fun b z nb => z.elim (fun z => absurd z nb) fun z => by subst z; exact n
    refine h2 (.ref a :: vs) H2 O2 r2 q2 (e1.trans e2) (m1.trans m2) (fun b z => z2 b (.inl z)) ⟨⟨a, us, ds, rfl, rfl, z2 a (.inr rfl), fun z => r.dom a (r.sub a z) n, ?_, e2 a _ t n1, p.mono m2⟩, v2⟩ (List.nodup_cons.mpr ⟨fun z => ?_, n2⟩) fun b hb => ?_
    · cases p0 : B.H0 a with
      | none => rfl
      | some o => rw [r.same a o p0 n1] at n; cases n
    · rw [f2 a z] at t; cases t
    · rcases List.mem_cons.mp hb with rfl | hb
      · exact n
      · exact e1.free q1 (f2 b hb)
/-- a hidden list becomes a slot's own -/
theorem Rl.setH {K : PySem.W.Frag} {O : Addr → Prop} {H : Hp} {env : Env} {σ : L2.St} (r : B.Rl K O env σ H) {i : Nat} {a : Addr} {vs : List V} {ds : List D} (h1 : O a) (h2 : ¬ B.O0 a) (h3 : B.H0 a = none) (t : H a = some (.lst vs)) (h : RpA K (hide H O) vs ds)
    (f : ∀ (j : Nat) (d : D), env[j]? = some (Slot.d true d) → σ[j]? ≠ some (some (V.ref a))) : B.Rl K O (env.set i (.d true (.list ds))) (σ.set i (some (.ref a))) H := by
  refine ⟨by rw [List.length_set, List.length_set]; exact r.len, r.so, r.sub, r.dom, r.dom0, r.same, fun j x o e1 e2 => ?_, fun j l d1 d2 b e1 e2 e3 e4 => ?_⟩
  · by_cases hj : i = j
    · subst hj
      have hi : i < env.length := by
        have := (List.getElem?_eq_some_iff.mp e1).1
        rwa [List.length_set] at this
      rw [List.getElem?_set_self hi] at e1
      rw [List.getElem?_set_self (by rw [← r.len]; exact hi)] at e2
      cases e1; cases e2
      exact ⟨a, vs, ds, rfl, rfl, t, h, h1, h2, h3⟩
    · rw [List.getElem?_set_ne hj] at e1 e2
      exact r.slots j x o e1 e2
  · have at_ : ∀ m : Nat, i = m → ∀ (dd : D) (bb : Addr), (env.set i (Slot.d true (.list ds)))[m]? = some (Slot.d true dd) → (σ.set i (some (V.ref a)))[m]? = some (some (V.ref bb)) → bb = a := fun m hm dd bb x1 x2 => by
      subst hm
      have hi : i < env.length := by
        have := (List.getElem?_eq_some_iff.mp x1).1
        rwa [List.length_set] at this
      rw [List.getElem?_set_self (by rw [← r.len]; exact hi)] at x2
      cases x2; rfl
    by_cases hj : i = j
    · by_cases hl : i = l
      · rw [← hj, ← hl]
      · have eb := at_ j hj _ _ e1 e3
        subst eb
        rw [List.getElem?_set_ne hl] at e2 e4
        exact (f l d2 e2 e4).elim
    · by_cases hl : i = l
      · have eb := at_ l hl _ _ e2 e4
        subst eb
        rw [List.getElem?_set_ne hj] at e1 e3
        exact (f j d1 e1 e3).elim
      · rw [List.getElem?_set_ne hj] at e1 e3
        rw [List.getElem?_set_ne hl] at e2 e4
        exact r.inj j l d1 d2 b e1 e2 e3 e4
/-- the slots of plain targets -/
def namesT : T → Option (List Nat)
  | .nil => some []
  | .cons (.ov i) r => (namesT r).map (i :: ·)
  | _ => none
def setAll (σ : L2.St) : List Nat → List V → L2.St
  | i :: is, v :: vs => setAll (σ.set i (some v)) is vs
  | _, _ => σ
theorem free_set {env : Env} {σ : L2.St} {i : Nat} {a : Addr} {x : Slot} {v : V} (hx : ∀ d : D, x = .d true d → v ≠ .ref a) (hl : env.length = σ.length) (f : ∀ (j : Nat) (d : D), env[j]? = some (Slot.d true d) → σ[j]? ≠ some (some (V.ref a))) :
    ∀ (j : Nat) (d : D), (env.set i x)[j]? = some (Slot.d true d) → (σ.set i (some v))[j]? ≠ some (some (V.ref a)) := fun j d e1 e2 => by
  by_cases hj : i = j
  · subst hj
    have hi : i < env.length := by
      have := (List.getElem?_eq_some_iff.mp e1).1
      rwa [List.length_set] at this
    rw [List.getElem?_set_self hi] at e1
    rw [List.getElem?_set_self (by rw [← hl]; exact hi)] at e2
    exact hx d (Option.some.inj e1) (Option.some.inj (Option.some.inj e2))
  · rw [List.getElem?_set_ne hj] at e1 e2
    exact f j d e1 e2
theorem bindP_ok {K : PySem.W.Frag} {O : Addr → Prop} {H : Hp} : ∀ {ts : T} {vs : List V} {xs : List (Kd × D)} {env env' : Env} {σ : L2.St} {is : List Nat}, B.Rl K O env σ H → VRc K B O H vs xs → (owns vs xs).Nodup →
    (∀ a ∈ owns vs xs, ∀ (j : Nat) (d : D), env[j]? = some (Slot.d true d) → σ[j]? ≠ some (some (V.ref a))) → bindP ts xs env = some env' → namesT ts = some is → B.Rl K O env' (setAll σ is vs) H ∧ is.length = vs.length := by
  intro ts
  induction ts with
  | nil =>
    intro vs xs env env' σ is r v nd f b n
    cases xs with
    | nil =>
      cases n
      have e : env = env' := by simpa [bindP] using b
      subst e
      cases vs with
      | nil => exact ⟨r, rfl⟩
      | cons _ _ => exact v.elim
    | cons _ _ => simp [bindP] at b
  | cons t u iht ihu =>
    intro vs xs env env' σ is r v nd f b n
    cases xs with
    | nil => simp [bindP] at b
    | cons x xs =>
      cases vs with
      | nil => exact v.elim
      | cons v0 vs =>
        have b : ((bindT t x env).bind fun env1 => bindP u xs env1) = some env' := by simpa [bindP] using b
        obtain ⟨env1, b1, b2⟩ := Option.bind_eq_some_iff.mp b
        obtain ⟨i, is', hti, n', rfl⟩ : ∃ i is', t = .ov i ∧ namesT u = some is' ∧ is = i :: is' := by
          cases t <;> first
            | (simp [namesT] at n; done)
            | (simp only [namesT, Option.map_eq_some_iff] at n
               obtain ⟨a, h1, h2⟩ := n
               exact ⟨_, a, rfl, h1, h2.symm⟩)
        subst hti
        have done : ∀ (x1 : Slot), env1 = env.set i x1 → B.Rl K O (env.set i x1) (σ.set i (some v0)) H → VRc K B O H vs xs → (owns vs xs).Nodup → (∀ a ∈ owns vs xs, ∀ d : D, x1 = .d true d → v0 ≠ .ref a) →
            (∀ a ∈ owns vs xs, ∀ (j : Nat) (d : D), env[j]? = some (Slot.d true d) → σ[j]? ≠ some (some (V.ref a))) → B.Rl K O env' (setAll σ (i :: is') (v0 :: vs)) H ∧ (i :: is').length = (v0 :: vs).length := by
          intro x1 e1 r1 v1 nd1 hx f1
          subst e1
          obtain ⟨z1, z2⟩ := ihu r1 v1 nd1 (fun a ha => free_set (hx a ha) r.len (f1 a ha)) b2 n'
          exact ⟨z1, congrArg (· + 1) z2⟩
        obtain ⟨kd, d⟩ := x
        cases kd with
        | peek => simp [bindT] at b1
        | frz =>
          have ow : owns (v0 :: vs) ((Kd.frz, d) :: xs) = owns vs xs := by cases v0 <;> rfl
          rw [ow] at nd f
          have e1 : env1 = env.set i (.d false d) := by
            have b1 : putE env i (.d false d) = some env1 := by simpa [bindT] using b1
            exact (putE_some b1).2
          exact done _ e1 (r.setF v.1) v.2 nd (fun a ha d' z => by cases z) f
        | own =>
          obtain ⟨⟨a, us, ds, rfl, rfl, g1, g2, g3, g4, g5⟩, v2⟩ := v
          have ow : owns (.ref a :: vs) ((Kd.own, PyData.list ds) :: xs) = a :: owns vs xs := rfl
          rw [ow] at nd f
          obtain ⟨na, nd2⟩ := List.nodup_cons.mp nd
          have b1 : putE env i (.d true (.list ds)) = some env1 := by simpa [bindT] using b1
          exact done _ (putE_some b1).2 (Rl.setH r g1 g2 g3 g4 g5 (f a List.mem_cons_self)) v2 nd2 (fun b hb d' _ z => by cases z; exact na hb) fun b hb => f b (List.mem_cons_of_mem _ hb)
  | _ =>
    intro vs xs env env' σ is r v nd f b n
    simp [namesT] at n
theorem free_of {K : PySem.W.Frag} {O : Addr → Prop} {H : Hp} {env : Env} {σ : L2.St} (r : B.Rl K O env σ H) {a : Addr} (n : H a = none) : ∀ (j : Nat) (d : D), env[j]? = some (Slot.d true d) → σ[j]? ≠ some (some (V.ref a)) := fun j d e1 e2 => by
  obtain ⟨_, _, _, p, _⟩ := r.owned e1 e2
  rw [n] at p; cases p
/-- the reading of a store of several values -/
theorem par_core {es : T} {ts : T} {is : List Nat} {N : Ends} {σ : L2.St} {H : Hp} (hn : namesT ts = some is) (h : tS C X.K B W (.par ts es) N σ H) :
    tP C X.K B W es σ H fun vs H1 => vs.length = is.length ∧ (∀ p, H1 p = none → ∀ o, N.nx (setAll σ is vs) (upd H1 p (.tup o))) ∧ N.nx (setAll σ is vs) H1 := by
  obtain ⟨env, s, O, r, q, h⟩ := h
  unfold evS at h
  refine ⟨env, s, O, r, q, h.bind.mono (fun xs s1 h1 => ?_) fun _ _ _ z => wS.x r z⟩
  intro vs H1 O1 r1 q1 e1 m1 z1 v1 n1 f1
  obtain ⟨fl, e2, h2⟩ := h1.of
  obtain ⟨env', e3, e4⟩ := Option.map_eq_some_iff.mp e2
  subst e4
  obtain ⟨r2, l2⟩ := bindP_ok r1 v1 n1 (fun a ha => free_of r (f1 a ha)) e3 hn
  refine ⟨l2.symm, fun p hp o => h2 _ _ O1 (r2.ext (Ex.new hp) (q1.same (same_new hp))) (q1.same (same_new hp)) (m1.trans (r2.hid (Ex.new hp))), h2 _ _ O1 r2 q1 m1⟩
theorem js_par2 (sx : SX C k fns cns X W) {i j : Nat} {x y : Str} {a b : Expr} {px py pt pos : Pos} {kt k2 : Nat} {pt2 : Pos} {es : T} (hi : X.N[i]? = some x) (hj : X.N[j]? = some y) (hij : i ≠ j)
    (hx : X.env.scope.names.lookup x = some .local) (hy : X.env.scope.names.lookup y = some .local) (ha : PA X [a, b] (tP C X.K B W es))
    (hw : swappedStores [.Tuple [.Name x px, .Name y py] kt pt] (.Tuple [a, b] k2 pt2) X.env = pure (some [x, y])) :
    PS X (.Assign [.Tuple [.Name x px, .Name y py] kt pt] (.Tuple [a, b] k2 pt2) pos) (tS C X.K B W (.par (.cons (.ov i) (.cons (.ov j) .nil)) es)) := by
  refine (ps_par sx.hx.calm sx.hx.nd hi hj hij hx hy ha hw).weak fun N σ H h => ?_
  obtain ⟨env, s, O, r, q, h⟩ := par_core (is := [i, j]) rfl h
  refine ⟨env, s, O, r, q, h.mono (fun xs s1 h1 vs H1 O1 r1 q1 e1 m1 z1 v1 n1 f1 => ?_) fun _ _ _ z => z⟩
  obtain ⟨l, _, fin⟩ := h1 vs H1 O1 r1 q1 e1 m1 z1 v1 n1 f1
  match vs, l, fin with
  | [v, w], _, fin => exact ⟨v, w, rfl, fin⟩
theorem js_par3 (sx : SX C k fns cns X W) {i j l : Nat} {x y z : Str} {a b c : Expr} {px py pz pt pos : Pos} {kt k2 : Nat} {pt2 : Pos} {es : T} (hi : X.N[i]? = some x) (hj : X.N[j]? = some y) (hl : X.N[l]? = some z) (hij : i ≠ j) (hil : i ≠ l) (hjl : j ≠ l)
    (hx : X.env.scope.names.lookup x = some .local) (hy : X.env.scope.names.lookup y = some .local) (hz : X.env.scope.names.lookup z = some .local) (ha : PA X [a, b, c] (tP C X.K B W es))
    (hw : swappedStores [.Tuple [.Name x px, .Name y py, .Name z pz] kt pt] (.Tuple [a, b, c] k2 pt2) X.env = pure (some [x, y, z])) :
    PS X (.Assign [.Tuple [.Name x px, .Name y py, .Name z pz] kt pt] (.Tuple [a, b, c] k2 pt2) pos) (tS C X.K B W (.par (.cons (.ov i) (.cons (.ov j) (.cons (.ov l) .nil))) es)) := by
  refine (ps_par3 sx.hx.calm sx.hx.nd hi hj hl hij hil hjl hx hy hz ha hw).weak fun N σ H h => ?_
  obtain ⟨env, s, O, r, q, h⟩ := par_core (is := [i, j, l]) rfl h
  refine ⟨env, s, O, r, q, h.mono (fun xs s1 h1 vs H1 O1 r1 q1 e1 m1 z1 v1 n1 f1 => ?_) fun _ _ _ z => z⟩
  obtain ⟨l, _, fin⟩ := h1 vs H1 O1 r1 q1 e1 m1 z1 v1 n1 f1
  match vs, l, fin with
  | [v, w, u], _, fin => exact ⟨v, w, u, rfl, fin⟩
/-- names as a row of targets -/
def gAll (is : List Nat) : TGs := fun vs σ H Q => vs.length = is.length ∧ Q (setAll σ is vs) H
theorem pgs_names (sx : SX C k fns cns X W) : ∀ {es : List Expr} {is : List Nat}, (∀ (n : Nat) (e : Expr), es[n]? = some e → ∃ x p i, e = .Name x p ∧ is[n]? = some i ∧ X.N[i]? = some x ∧ Loc X.env.scope x) → es.length = is.length → PGs X es (gAll is)
  | [], [], _, _ => pgs_nil.weak fun vs σ H Q h => by
    obtain ⟨l, h⟩ := h
    cases vs with
    | nil => exact ⟨rfl, h⟩
    | cons _ _ => cases l
  | [], _ :: _, _, l => by cases l
  | _ :: _, [], _, l => by cases l
  | e :: es, i :: is, h, l => by
    obtain ⟨x, p, i', rfl, e2, e3, e4⟩ := h 0 e rfl
    cases e2
    refine (pgs_cons (pg_name sx.hx.nd e3 e4 (.inl (sx.fn x))) (pgs_names sx (fun n e he => h (n + 1) e he) (Nat.succ.inj l)) rfl).weak fun vs σ H Q h => ?_
    obtain ⟨l, h⟩ := h
    cases vs with
    | nil => cases l
    | cons v vs => exact ⟨v, vs, rfl, Nat.succ.inj l, h⟩
theorem js_parG (sx : SX C k fns cns X W) {es es2 : List Expr} {is : List Nat} {kt k2 : Nat} {pt pt2 pos : Pos} {ts t : T} (hn : namesT ts = some is) (hN : ∀ (n : Nat) (e : Expr), es[n]? = some e → ∃ x p i, e = .Name x p ∧ is[n]? = some i ∧ X.N[i]? = some x ∧ Loc X.env.scope x)
    (hl : es.length = is.length) (hsz : is.length ≤ 1000) (ha : PA X es2 (tP C X.K B W t)) (hw : swappedStores [.Tuple es kt pt] (.Tuple es2 k2 pt2) X.env = pure none) :
    PS X (.Assign [.Tuple es kt pt] (.Tuple es2 k2 pt2) pos) (tS C X.K B W (.par ts t)) := by
  have st : es.all (fun e => !isStar e) = true := List.all_eq_true.mpr fun e he => by
    obtain ⟨n, hn⟩ := List.mem_iff_getElem?.mp he
    obtain ⟨x, p, i, rfl, _⟩ := hN n e hn
    rfl
  refine (ps_asg (pe_tup ha) (pg_tup sx.hx.calm (pgs_names sx hN hl) (assign_len es) (assign_plain es st)) rfl hw rfl).weak fun N σ H h => ?_
  obtain ⟨env, s, O, r, q, h⟩ := par_core hn h
  refine ⟨env, s, O, r, q, h.mono (fun xs s1 h1 vs H1 O1 r1 q1 e1 m1 z1 v1 n1 f1 => ?_) fun _ _ _ z => z⟩
  obtain ⟨l, fin, _⟩ := h1 vs H1 O1 r1 q1 e1 m1 z1 v1 n1 f1
  refine ⟨by rw [l]; exact Nat.le_of_lt (small1000 hsz), fun p hp => ⟨p, vs, rfl, .inl (.inl upd_same), by rw [l, hl], l, fin p hp vs⟩⟩

/-! ### owned lists change -/
theorem sub_assign {o i : Expr} {pos : Pos} {env : PySem.Env} (h : isSlice i = false) : ∀ v, assign (.Subscript o i pos) env v = (do
      let ov ← holding [v] (eval o env)
      let iv ← holding [v, ov] (eval i env)
      standAt pos
      holding [v, ov, iv] (setItem ov iv v)
      release [v, ov, iv] []) := fun v => by
  cases i <;> first | rfl | cases h
theorem swaps_sub {e o i : Expr} {p pos : Pos} {env : PySem.Env} : swapsWithSole [.Subscript o i p] e pos.line env = pure false := by
  cases e <;> rfl
theorem js_setx {i : Nat} {x : Str} {ix e : Expr} {ti te : T} {px p pos : Pos} (hN : X.N[i]? = some x) (hv : Vis X.env.scope x) (hd : (x == ("__debug__" : Str)) = false) (hcd : (x == ("__classdict__" : Str)) = false)
    (he : JE C X B W e te) (hi : JE C X B W ix ti) (hs : isSlice ix = false) : PS X (.Assign [.Subscript (.Name x px) ix p] e pos) (tS C X.K B W (.setx i ti te)) := by
  refine (ps_asg he.e (pg_sub (pe_var hN hv hd hcd) hi.e set_list (sub_assign hs)) swaps_sub (by cases e <;> rfl) rfl).weak fun N σ H => ?_
  rintro ⟨env, s, O, r, q, h⟩
  unfold evS at h
  cases ho : ownL env i with
  | none => rw [ho] at h; exact h.elim
  | some ds =>
    rw [ho] at h
    have h : RQ ((evE C.Φ C.G te env s).bind _) _ _ := h
    refine eOne r q (h.bind.mono (fun y s1 h1 => ?_) fun _ _ _ z => wS.x r z)
    intro u H1 e1 q1 v1
    have r1 := r.ext e1 q1
    obtain ⟨a, vs, ea, _, _⟩ := r1.own ho
    refine ⟨_, ea, eOne r1 q1 (h1.bind.mono (fun z s2 h2 => ?_) fun _ _ _ z => wS.x r1 z)⟩
    intro w H2 e2 q2 v2
    have r2 := r1.ext e2 q2
    obtain ⟨a', vs', ea', ha, ra⟩ := r2.own ho
    rw [ea] at ea'; cases ea'
    have v1' := v1.ext r e1 q1 e2 q2
    by_cases hp : y.1 = .peek
    · rw [if_pos hp] at h2; exact h2.elim
    rw [if_neg hp] at h2
    have ru := v1'.frz r.dom hp
    obtain ⟨kz, dz⟩ := z
    cases dz with
    | int kk =>
      obtain rfl := v2.int
      have h2 : RQ (match ixN ds.length kk with
        | some j => R.ok (Fl.next (env.set i (.d true (.list (ds.set j y.2))))) s2
        | none => R.stuck) (SPost X.K B O H N) (wS C X.K B W) := h2
      cases hx : ixN ds.length kk with
      | none => rw [hx] at h2; exact h2.elim
      | some j =>
        rw [hx] at h2
        refine ⟨a, vs', kk, j, rfl, rfl, ha, by rw [ra.len]; exact hx, ?_⟩
        obtain ⟨r3, m3, n1⟩ := r2.write (ownL_some ho) ea (ra.set ru j)
        exact h2 _ _ O r3 (q2.poke n1) (((r.hid e1).trans (r1.hid e2)).trans m3)
    | _ => exact h2.elim
theorem iop_ok (o : Operator) : PIp X o (fun u w H Q => ∃ (O : Addr → Prop) (Ha : Hp) (k1 : Kd) (x y : D) (z : D), Rp X.K H u x ∧ VR X.K B.S O Ha H k1 w y ∧ opI o x y = some z ∧ ∀ v, Rp X.K (fun _ => none) v z → Q v H) := by
  intro pins s σ H u w vu vw Q I ru rw' h
  obtain ⟨O, Ha, k1, x, y, z, hx, hy, e, q⟩ := h
  unfold opI at e
  split at e
  · cases e
    cases hx; obtain rfl := hy.int
    exact iop_add pins s σ H _ _ vu vw Q I ru rw' ⟨_, _, rfl, rfl, q _ (Rp.int _)⟩
  · split at e <;> cases e
    cases hx with
    | str _ l1 l2 =>
      obtain ⟨rfl, m1, m2⟩ := hy.str
      refine iop_add_str pins s σ H _ _ vu vw Q I ru rw' ⟨_, _, rfl, rfl, by assumption, q _ (Rp.str _ ?_ (str_app_ok l2 m2))⟩
      rw [str_len_app]; assumption
  · cases e
    cases hx; obtain rfl := hy.int
    exact iop_sub pins s σ H _ _ vu vw Q I ru rw' ⟨_, _, rfl, rfl, q _ (Rp.int _)⟩
  · split at e <;> cases e
    cases hx; obtain rfl := hy.int
    exact iop_mul pins s σ H _ _ vu vw Q I ru rw' ⟨_, _, rfl, rfl, cmul_of (by assumption), q _ (Rp.int _)⟩
  · split at e <;> cases e
    cases hx; obtain rfl := hy.int
    exact iop_fdiv pins s σ H _ _ vu vw Q I ru rw' ⟨_, _, rfl, rfl, by assumption, q _ (Rp.int _)⟩
  · split at e <;> cases e
    cases hx; obtain rfl := hy.int
    exact iop_mod pins s σ H _ _ vu vw Q I ru rw' ⟨_, _, rfl, rfl, by assumption, q _ (Rp.int _)⟩
  · cases e
theorem none_mono {K : PySem.W.Frag} {H : Hp} {v : V} {d : D} (h : Rp K (fun _ => none) v d) : Rp K H v d := h.mono fun _ o z => nomatch (show (none : Option HO) = some o from z)
theorem js_aug (sx : SX C k fns cns X W) {i : Nat} {x : Str} {o : Operator} {e : Expr} {te : T} {px pos : Pos} (hN : X.N[i]? = some x) (hx : Loc X.env.scope x) (he : JE C X B W e te) : PS X (.AugAssign (.Name x px) o e pos) (tS C X.K B W (.aug i o te)) := by
  refine (ps_aug sx.hx.nd hN hx he.e (iop_ok (B := B) o) (.inl (sx.fn x))).weak fun N σ H => ?_
  rintro ⟨env, s, O, r, q, h⟩
  unfold evS at h
  split at h
  case h_2 => exact h.elim
  case h_1 d e0 =>
  have hi : i < σ.length := by
    rw [← r.len]
    exact (List.getElem?_eq_some_iff.mp e0).1
  have e2 : σ[i]? = some σ[i] := List.getElem?_eq_getElem hi
  obtain ⟨v, e3, p⟩ := r.slots i _ _ e0 e2
  rw [e3] at e2
  refine ⟨v, e2, eOne r q (h.bind.mono (fun y s1 h1 => ?_) fun _ _ _ z => wS.x r z)⟩
  intro u H1 e1 q1 v1
  cases hz : opI o d y.2 with
  | none => rw [hz] at h1; exact h1.elim
  | some z =>
    rw [hz] at h1
    have r1 := r.ext e1 q1
    exact ⟨O, H, y.1, d, y.2, z, (p.mono (r.hid e1)).mono same_hide, v1, hz, fun w rw => h1 _ H1 O (r1.setF (none_mono rw)) q1 (r.hid e1)⟩
theorem app_line {e : Expr} {cpos : Pos} (hs : isStar e = false) : ((backTo cpos (starEach [e] X.env)).all (fun x => !x.1) && (backToKw cpos (keywordEach [] X.env)).all (fun x => x.1.isSome)
      && decide ([e].length + ([] : List Keyword).length + (if ([] : List Keyword).isEmpty then 0 else 1) < 30)) = true := by
  rw [star_cons hs] <;> rfl
theorem js_app {i : Nat} {x : Str} {e : Expr} {te : T} {px apos cpos pos : Pos} (hN : X.N[i]? = some x) (hv : Vis X.env.scope x) (hd : (x == ("__debug__" : Str)) = false) (hcd : (x == ("__classdict__" : Str)) = false)
    (he : JE C X B W e te) (hs : isStar e = false) (hl : (apos.endLine == cpos.line) = true) : PS X (.Expr (.Call (.Attribute (.Name x px) "append" apos) [e] [] cpos) pos) (tS C X.K B W (.app i te)) := by
  refine (ps_expr (pe_bm PySem.F.plainAttrs_list PySem.F.slot_list_append PySem.F.type_list_append mt_append (pe_var hN hv hd hcd) (pa_cons he.e pa_nil (star_cons hs)) rfl (app_line hs) hl (star_cons hs) rfl) rfl).weak fun N σ H => ?_
  rintro ⟨env, s, O, r, q, h⟩
  unfold evS at h
  cases ho : ownL env i with
  | none => rw [ho] at h; exact h.elim
  | some ds =>
    rw [ho] at h
    have h : RQ ((evE C.Φ C.G te env s).bind _) _ _ := h
    obtain ⟨a, vs, ea, ha0, _⟩ := r.own ho
    refine ⟨_, ea, .inl ⟨rfl, _, .of ha0⟩, eOne r q (h.bind.mono (fun y s1 h1 => ?_) fun _ _ _ z => wS.x r z)⟩
    intro u H1 e1 q1 v1
    have r1 := r.ext e1 q1
    obtain ⟨a', vs', ea', ha, ra⟩ := r1.own ho
    rw [ea] at ea'; cases ea'
    by_cases hp : y.1 = .peek
    · rw [if_pos hp] at h1; exact h1.elim
    rw [if_neg hp] at h1
    by_cases hz : ds.length < sizeLine
    · rw [if_pos hz] at h1
      refine ⟨a, vs', u, rfl, rfl, ha, by rw [ra.len]; exact hz, ?_⟩
      obtain ⟨r3, m3, n1⟩ := r1.write (ownL_some ho) ea (ra.app (.one (v1.frz r.dom hp)))
      exact h1 _ _ O r3 (q1.poke n1) ((r.hid e1).trans m3)
    · rw [if_neg hz] at h1; exact h1.elim
theorem js_ext {i : Nat} {x : Str} {e : Expr} {te : T} {px apos cpos pos : Pos} (hN : X.N[i]? = some x) (hv : Vis X.env.scope x) (hd : (x == ("__debug__" : Str)) = false) (hcd : (x == ("__classdict__" : Str)) = false)
    (he : JE C X B W e te) (hs : isStar e = false) (hl : (apos.endLine == cpos.line) = true) : PS X (.Expr (.Call (.Attribute (.Name x px) "extend" apos) [e] [] cpos) pos) (tS C X.K B W (.ext i te)) := by
  refine (ps_expr (pe_bm PySem.F.plainAttrs_list PySem.F.slot_list_extend PySem.F.type_list_extend mt_extend (pe_var hN hv hd hcd) (pa_cons he.e pa_nil (star_cons hs)) rfl (app_line hs) hl (star_cons hs) rfl) rfl).weak fun N σ H => ?_
  rintro ⟨env, s, O, r, q, h⟩
  unfold evS at h
  cases ho : ownL env i with
  | none => rw [ho] at h; exact h.elim
  | some ds =>
    rw [ho] at h
    have h : RQ ((evE C.Φ C.G te env s).bind _) _ _ := h
    obtain ⟨a, vs, ea, ha0, _⟩ := r.own ho
    refine ⟨_, ea, .inl ⟨rfl, _, .of ha0⟩, eOne r q (h.bind.mono (fun y s1 h1 => ?_) fun _ _ _ z => wS.x r z)⟩
    intro u H1 e1 q1 v1
    have r1 := r.ext e1 q1
    obtain ⟨a', vs', ea', ha, ra⟩ := r1.own ho
    rw [ea] at ea'; cases ea'
    obtain ⟨ky, dy⟩ := y
    cases dy with
    | list es =>
      have h1 : RQ (if ds.length + es.length ≤ sizeLine then _ else _) _ _ := h1
      by_cases hz : ds.length + es.length ≤ sizeLine
      · rw [if_pos hz] at h1
        obtain ⟨b, ws, rfl, eb, rb⟩ := v1.list
        refine ⟨a, b, vs', ws, rfl, rfl, ha, eb, by rw [ra.len, rb.len]; exact hz, ?_⟩
        obtain ⟨r3, m3, n1⟩ := r1.write (ownL_some ho) ea (ra.app rb)
        exact h1 _ _ O r3 (q1.poke n1) ((r.hid e1).trans m3)
      · rw [if_neg hz] at h1; exact h1.elim
    | _ => exact h1.elim
theorem js_popS {i : Nat} {x : Str} {px apos cpos pos : Pos} (hN : X.N[i]? = some x) (hv : Vis X.env.scope x) (hd : (x == ("__debug__" : Str)) = false) (hcd : (x == ("__classdict__" : Str)) = false)
    (hl : (apos.endLine == cpos.line) = true) : PS X (.Expr (.Call (.Attribute (.Name x px) "pop" apos) [] [] cpos) pos) (tS C X.K B W (.popS i)) := by
  refine (ps_expr (pe_bm0 PySem.F.plainAttrs_list PySem.F.slot_list_pop PySem.F.type_list_pop mt_pop (pe_var hN hv hd hcd) rfl hl) rfl).weak fun N σ H => ?_
  rintro ⟨env, s, O, r, q, h⟩
  unfold evS at h
  cases ho : ownL env i with
  | none => rw [ho] at h; exact h.elim
  | some ds =>
    rw [ho] at h
    obtain ⟨a, vs, ea, ha, ra⟩ := r.own ho
    have h : RQ (if ds.length = 0 then _ else _) _ _ := h
    by_cases hz : ds.length = 0
    · rw [if_pos hz] at h; exact h.elim
    · rw [if_neg hz] at h
      have hv : 0 < vs.length := by rw [ra.len]; omega
      refine ⟨_, ea, .inl ⟨rfl, _, .of ha⟩, a, vs, vs[vs.length - 1], rfl, rfl, ha, List.getElem?_eq_getElem (by omega), ?_⟩
      obtain ⟨r3, m3, n1⟩ := r.write (ownL_some ho) ea ra.dropLast
      exact h _ _ O r3 (q.poke n1) m3
/-- x[k] by values, k not below 0 -/
theorem get_lst : PGet X (fun o i H Q => ∃ p xs k v, o = .ref p ∧ i = .int k ∧ H p = some (.lst xs) ∧ 0 ≤ k ∧ xs[k.toNat]? = some v ∧ Q v H) := by
  intro pins s σ H o i ov iv Q I ro ri h
  obtain ⟨p, xs, k, v, rfl, rfl, hp, h0, hv, q⟩ := h
  cases ro
  obtain ⟨t, rfl⟩ := ri
  obtain ⟨its, rv, pl, hz⟩ := I.list (SqL.of hp)
  obtain ⟨u, hu, ru⟩ := rv.get hv
  have hlt : k.toNat < xs.length := (List.getElem?_eq_some_iff.mp hv).1
  have hn := line63
  exact wpAny_getItem_list pl.isList h0 (by omega) (by simpa using hu) ⟨v, H, I, ru, q⟩
theorem aug_store {i : Expr} (h : isSlice i = false) : ∀ ov iv new, augStore i ov iv new = (do holding [new, ov, iv] (setItem ov iv new); release [new, ov, iv] []; pure .next) := fun ov iv new => by
  cases i <;> first | rfl | cases h
theorem js_augx {i : Nat} {x : Str} {o : Operator} {ix e : Expr} {ti te : T} {px p pos : Pos} (hN : X.N[i]? = some x) (hv : Vis X.env.scope x) (hd : (x == ("__debug__" : Str)) = false) (hcd : (x == ("__classdict__" : Str)) = false)
    (he : JE C X B W e te) (hi : JE C X B W ix ti) (hs : isSlice ix = false) : PS X (.AugAssign (.Subscript (.Name x px) ix p) o e pos) (tS C X.K B W (.augx i ti o te)) := by
  refine (ps_augS (pe_var hN hv hd hcd) hi.e get_lst he.e (iop_ok (B := B) o) set_list (aug_store hs)).weak fun N σ H => ?_
  rintro ⟨env, s, O, r, q, h⟩
  unfold evS at h
  cases ho : ownL env i with
  | none => rw [ho] at h; exact h.elim
  | some ds =>
    rw [ho] at h
    have h : RQ ((evE C.Φ C.G ti env s).bind _) _ _ := h
    obtain ⟨a, vs, ea, ha0, _⟩ := r.own ho
    refine ⟨_, ea, eOne r q (h.bind.mono (fun y s1 h1 => ?_) fun _ _ _ z => wS.x r z)⟩
    intro u H1 e1 q1 v1
    have r1 := r.ext e1 q1
    obtain ⟨a', vs', ea', ha, ra⟩ := r1.own ho
    rw [ea] at ea'; cases ea'
    obtain ⟨ky, dy⟩ := y
    cases dy with
    | int kk =>
      obtain rfl := v1.int
      have h1 : RQ (if kk < 0 then R.stuck else (match ds[kk.toNat]? with
        | some x => (evE C.Φ C.G te env s1).bind fun z s => (match opI o x z.2 with
          | some w => R.ok (Fl.next (env.set i (.d true (.list (ds.set kk.toNat w))))) s
          | none => R.stuck)
        | none => R.stuck)) (SPost X.K B O H N) (wS C X.K B W) := h1
      by_cases hk : kk < 0
      · rw [if_pos hk] at h1; exact h1.elim
      rw [if_neg hk] at h1
      cases hx : ds[kk.toNat]? with
      | none => rw [hx] at h1; exact h1.elim
      | some dx =>
        rw [hx] at h1
        have h1 : RQ ((evE C.Φ C.G te env s1).bind _) _ _ := h1
        obtain ⟨vx, evx, rvx⟩ := ra.get hx
        refine ⟨a, vs', kk, vx, rfl, rfl, ha, by omega, evx, eOne r1 q1 (h1.bind.mono (fun z s2 h2 => ?_) fun _ _ _ z => wS.x r1 z)⟩
        intro w H2 e2 q2 v2
        have r2 := r1.ext e2 q2
        obtain ⟨a2, vs2, ea2, ha2, ra2⟩ := r2.own ho
        rw [ea] at ea2; cases ea2
        cases hz : opI o dx z.2 with
        | none => rw [hz] at h2; exact h2.elim
        | some dw =>
          rw [hz] at h2
          have hlt : kk.toNat < ds.length := (List.getElem?_eq_some_iff.mp hx).1
          refine ⟨O, H1, z.1, dx, z.2, dw, (rvx.mono (r1.hid e2)).mono same_hide, v2, hz, fun vw rw => ⟨a, vs2, kk, kk.toNat, rfl, rfl, ha2, ?_, ?_⟩⟩
          · unfold ixN
            rw [if_pos (by omega), if_pos (by rw [ra2.len]; omega)]
          · obtain ⟨r3, m3, n1⟩ := r2.write (ownL_some ho) ea (ra2.set (none_mono rw) kk.toNat)
            exact h2 _ _ O r3 (q2.poke n1) (((r.hid e1).trans (r1.hid e2)).trans m3)
    | _ => exact h1.elim

/-! ### raise -/
theorem VRs.len {K : PySem.W.Frag} {S : SA} {O : Addr → Prop} {Ha H : Hp} : ∀ {vs : List V} {xs : List (Kd × D)}, VRs K S O Ha H vs xs → vs.length = xs.length
  | [], [], _ => rfl
  | v :: vs, x :: xs, h => by rw [List.length_cons, List.length_cons, VRs.len h.2]
theorem scal_ok {K : PySem.W.Frag} {S : SA} {O : Addr → Prop} {Ha H : Hp} : ∀ {xs : List (Kd × D)} {vs : List V} {ds : List D}, VRs K S O Ha H vs xs → scalOf (xs.map (·.2)) = some ds → RpA K (fun _ => none) vs ds
  | [], [], ds, _, e => by cases e; exact .nil
  | x :: xs, v :: vs, ds, h, e => by
    obtain ⟨kx, dx⟩ := x
    rw [List.map_cons] at e
    cases dx with
    | none =>
      obtain ⟨r, e1, e2⟩ := Option.map_eq_some_iff.mp e
      subst e2
      obtain rfl := h.1.none
      exact .cons Rp.non (scal_ok h.2 e1)
    | bool b =>
      obtain ⟨r, e1, e2⟩ := Option.map_eq_some_iff.mp e
      subst e2
      obtain rfl := h.1.bool
      exact .cons (Rp.bl b) (scal_ok h.2 e1)
    | int i =>
      obtain ⟨r, e1, e2⟩ := Option.map_eq_some_iff.mp e
      subst e2
      obtain rfl := h.1.int
      exact .cons (Rp.int i) (scal_ok h.2 e1)
    | str z =>
      obtain ⟨r, e1, e2⟩ := Option.map_eq_some_iff.mp e
      subst e2
      obtain ⟨rfl, l1, l2⟩ := h.1.str
      exact .cons (Rp.str z l1 l2) (scal_ok h.2 e1)
    | _ => cases e
theorem js_raise (sx : SX C k fns cns X W) {c ar : Nat} {x : Str} {e : Expr} {es : List Expr} {t : T} {p pos pos2 : Pos} (hc : C.xcs[c]? = some (x, ar)) (hg : Gl X x) (ha : PA X (e :: es) (tA C X.K B W t)) (hs : (e :: es).all (fun e => !isStar e) = true) (hl : (e :: es).length = ar) (hz : ar ≤ 1000) :
    PS X (.Raise (some (.Call (.Name x p) (e :: es) [] pos)) none pos2) (tS C X.K B W (.raise c ar t)) := by
  obtain ⟨Cc, fs, hX, hf, hmk⟩ := sx.xc c x ar hc
  have h1 : isStar e = false := by
    simp only [List.all_cons, Bool.and_eq_true, Bool.not_eq_true'] at hs
    exact hs.1
  have h2 : es.all (fun e => !isStar e) = true := by
    simp only [List.all_cons, Bool.and_eq_true] at hs
    exact hs.2
  refine (ps_raise sx.hx.calm sx.tk (hmk _ e es p pos hg ha hl (star_cons h1) (plain_of h2))).weak fun N σ H => ?_
  rintro ⟨env, s, O, r, q, h⟩
  unfold evS at h
  refine ⟨env, s, O, r, q, h.bind.mono (fun xs s1 h1 => ?_) fun _ _ _ z => wS.x r z⟩
  intro vs H1 e1 q1 v1
  by_cases hx : xs.length = ar
  case neg => rw [if_neg hx] at h1; exact h1.elim
  rw [if_pos hx] at h1
  cases hd : scalOf (xs.map (·.2)) with
  | none => rw [hd] at h1; exact h1.elim
  | some ds =>
    rw [hd] at h1
    have hv : vs.length = ar := by rw [v1.len, hx]
    refine ⟨hv, by omega, fun d hn => ?_⟩
    exact h1 σ (upd H1 d (.xd (fs.zip vs.reverse))) (.ref Cc) (some d) (r.same.trans (e1.trans (Ex.new hn))) (q1.same (same_new hn)) ⟨Cc, fs, hX, rfl, .inr ⟨d, vs.reverse, rfl, upd_same, by rw [hf, List.length_reverse, hv], (scal_ok v1 hd).rev⟩⟩
/-! ### the drawn source -/
def fldN : Nat → Str
  | 0 => "left"
  | 1 => "mixed"
  | _ => "turn"
def dkS (S : SA) (s : Src) : List (Key × V) := [(.inr "cells", .ref S.a2), (.inr "left", .int s.left), (.inr "mixed", .int s.mixed), (.inr "turn", .int s.turn)]
theorem val_cells {S : SA} {s : Src} : valV (dkS S s) (.inr "cells") = some (.ref S.a2) := by
  unfold dkS
  rw [valV_pos rfl]
theorem val_fld {S : SA} {s : Src} (k : Nat) : valV (dkS S s) (.inr (fldN k)) = some (.int (s.get k)) := by
  have d1 : ¬ (Sum.inr ("cells" : Str) : Key) = Sum.inr ("left" : Str) := by decide +kernel
  have d2 : ¬ (Sum.inr ("cells" : Str) : Key) = Sum.inr ("mixed" : Str) := by decide +kernel
  have d3 : ¬ (Sum.inr ("cells" : Str) : Key) = Sum.inr ("turn" : Str) := by decide +kernel
  have d4 : ¬ (Sum.inr ("left" : Str) : Key) = Sum.inr ("mixed" : Str) := by decide +kernel
  have d5 : ¬ (Sum.inr ("left" : Str) : Key) = Sum.inr ("turn" : Str) := by decide +kernel
  have d6 : ¬ (Sum.inr ("mixed" : Str) : Key) = Sum.inr ("turn" : Str) := by decide +kernel
  unfold dkS fldN
  match k with
  | 0 => exact (valV_neg d1).trans (valV_pos rfl)
  | 1 => exact (valV_neg d2).trans ((valV_neg d4).trans (valV_pos rfl))
  | _ + 2 => exact (valV_neg d3).trans ((valV_neg d5).trans ((valV_neg d6).trans (valV_pos rfl)))
theorem put_fld {S : SA} {s : Src} (k : Nat) (n : Int) : putK (dkS S s) (.inr (fldN k)) (.int n) = dkS S (s.put k n) := by
  have d1 : ¬ (Sum.inr ("cells" : Str) : Key) = Sum.inr ("left" : Str) := by decide +kernel
  have d2 : ¬ (Sum.inr ("cells" : Str) : Key) = Sum.inr ("mixed" : Str) := by decide +kernel
  have d3 : ¬ (Sum.inr ("cells" : Str) : Key) = Sum.inr ("turn" : Str) := by decide +kernel
  have d4 : ¬ (Sum.inr ("left" : Str) : Key) = Sum.inr ("mixed" : Str) := by decide +kernel
  have d5 : ¬ (Sum.inr ("left" : Str) : Key) = Sum.inr ("turn" : Str) := by decide +kernel
  have d6 : ¬ (Sum.inr ("mixed" : Str) : Key) = Sum.inr ("turn" : Str) := by decide +kernel
  have any : ((dkS S s).any fun kv => decide (kv.1 = (.inr (fldN k) : Key))) = true := by
    rw [valV_any, val_fld]; rfl
  unfold putK
  rw [if_pos any]
  unfold dkS fldN Src.put
  match k with
  | 0 => simp only [List.map_cons, List.map_nil, if_neg d1, if_neg (Ne.symm d4), if_neg (Ne.symm d5), if_pos]
  | 1 => simp only [List.map_cons, List.map_nil, if_neg d2, if_neg d4, if_neg (Ne.symm d6), if_pos]
  | _ + 2 => simp only [List.map_cons, List.map_nil, if_neg d3, if_neg d5, if_neg d6, if_pos]
theorem Rl.src {K : PySem.W.Frag} {O : Addr → Prop} {H : Hp} {env : Env} {σ : L2.St} (r : B.Rl K O env σ H) {i : Nat} (e : env[i]? = some .src) : σ[i]? = some (some (.ref B.S.a1)) := by
  have hi : i < σ.length := by
    rw [← r.len]
    exact (List.getElem?_eq_some_iff.mp e).1
  have e2 : σ[i]? = some σ[i] := List.getElem?_eq_getElem hi
  have so := r.slots i _ _ e e2
  rw [e2]; exact congrArg some so
theorem get_fld {S : SA} {H : Hp} {s : Src} (q : SrcR S H s) (m : Nat) : DGet H S.a1 (.str (fldN m)) (some (.int (s.get m))) := by
  have h := DGet.k (k := .inr (fldN m)) q.2.1
  have e := val_fld (S := S) (s := s) m
  unfold dkS at e
  rw [e] at h
  exact h
theorem get_cells {S : SA} {H : Hp} {s : Src} (q : SrcR S H s) : DGet H S.a1 (.str ("cells" : Str)) (some (.ref S.a2)) := by
  have h := DGet.k (k := .inr ("cells" : Str)) q.2.1
  have e := val_cells (S := S) (s := s)
  unfold dkS at e
  rw [e] at h
  exact h
theorem dput_fld {S : SA} {H : Hp} {s : Src} (q : SrcR S H s) (m : Nat) (n : Int) : DPut H S.a1 (.str (fldN m)) (.int n) (upd H S.a1 (.dK (dkS S (s.put m n)))) := by
  have h := DPut.k (k := .inr (fldN m)) (v := .int n) q.2.1 (by show 4 < sizeLine; decide)
  have e := put_fld (S := S) (s := s) m n
  unfold dkS at e
  rw [e] at h
  exact h
theorem je_srcG (hx : HX C k fns cns X) {i m : Nat} {x f : Str} {j : Nat} {p p2 pos : Pos} (hN : X.N[i]? = some x) (hv : Vis X.env.scope x) (hd : (x == ("__debug__" : Str)) = false) (hcd : (x == ("__classdict__" : Str)) = false) (hf : f = fldN m) :
    JE C X B W (.Subscript (.Name x p) (.Constant (.str f) j p2) pos) (.srcG m i) := by
  subst hf
  refine .of ((pe_dget (by have := hx.units; omega) (pe_var hN hv hd hcd) pe_str (fun _ _ => rfl)).weak fun σ H Q => ?_)
  rintro ⟨env, s, O, r, q, h⟩
  unfold evE at h
  cases e : env[i]? with
  | none => rw [e] at h; exact h.elim
  | some sl =>
    rw [e] at h
    cases sl with
    | e => exact h.elim
    | d o x => cases o <;> exact h.elim
    | src => exact ⟨_, r.src e, B.S.a1, _, rfl, get_fld q m, h _ _ (Ex.refl _ _) q (Rp.int _)⟩
theorem je_srcL (hx : HX C k fns cns X) {i : Nat} {x : Str} {j : Nat} {p p2 p3 pf pos : Pos} (hg : Gl X "len") (hN : X.N[i]? = some x) (hv : Vis X.env.scope x) (hd : (x == ("__debug__" : Str)) = false) (hcd : (x == ("__classdict__" : Str)) = false) :
    JE C X B W (.Call (.Name "len" pf) [.Subscript (.Name x p) (.Constant (.str "cells") j p2) p3] [] pos) (.srcL i) := by
  refine .of ((pe_callB call_len_seq hg (hx.blt _ (by decide)) boot_len (pa_cons (pe_dget (by have := hx.units; omega) (pe_var hN hv hd hcd) pe_str (fun _ _ => rfl)) pa_nil)).weak fun σ H Q => ?_)
  rintro ⟨env, s, O, r, q, h⟩
  unfold evE at h
  cases e : env[i]? with
  | none => rw [e] at h; exact h.elim
  | some sl =>
    rw [e] at h
    cases sl with
    | e => exact h.elim
    | d o x => cases o <;> exact h.elim
    | src =>
      refine ⟨_, r.src e, B.S.a1, V.ref B.S.a2, rfl, get_cells q, B.S.a2, s.cells.map V.int, rfl, .inl (.of q.2.2.1), ?_⟩
      rw [List.length_map]
      exact h _ _ (Ex.refl _ _) q (Rp.int _)
theorem SrcR.put {S : SA} {H : Hp} {s : Src} (q : SrcR S H s) (m : Nat) (n : Int) : SrcR S (upd H S.a1 (.dK (dkS S (s.put m n)))) (s.put m n) := by
  refine ⟨q.1, upd_same, ?_, tabs_upd q.2.1 (fun _ z => nomatch z) (fun _ z => nomatch z) q.2.2.2⟩
  rw [upd_ne q.1.symm]
  have : (s.put m n).cells = s.cells := by unfold Src.put; split <;> rfl
  rw [this]; exact q.2.2.1
theorem Ex.upd1 {S : SA} {H : Hp} {o : HO} : Ex S H (upd H S.a1 o) := fun b x e h1 => by rw [upd_ne (fun z => h1 (.inl z))]; exact e
theorem Ex.upd2 {S : SA} {H : Hp} {o : HO} : Ex S H (upd H S.a2 o) := fun b x e h1 => by rw [upd_ne (fun z => h1 (.inr (.inl z)))]; exact e
theorem js_srcS (hx : HX C k fns cns X) {i m : Nat} {x f : Str} {e : Expr} {te : T} {j : Nat} {p p2 p3 pos : Pos} (hN : X.N[i]? = some x) (hv : Vis X.env.scope x) (hd : (x == ("__debug__" : Str)) = false) (hcd : (x == ("__classdict__" : Str)) = false) (hf : f = fldN m)
    (he : JE C X B W e te) : PS X (.Assign [.Subscript (.Name x p) (.Constant (.str f) j p2) p3] e pos) (tS C X.K B W (.srcS m i te)) := by
  subst hf
  have hs : swapsWith e (some (.Subscript (.Name x p) (.Constant (.str (fldN m)) j p2) p3)) pos.line X.env = pure false := by
    cases e <;> rfl
  refine (ps_dput (by have := hx.units; omega) (pe_var hN hv hd hcd) pe_str he.e hs).weak fun N σ H => ?_
  rintro ⟨env, s, O, r, q, h⟩
  unfold evS at h
  refine eOne r q (h.bind.mono (fun y s1 h1 => ?_) fun _ _ _ z => wS.x r z)
  intro u H1 e1 q1 v1
  have r1 := r.ext e1 q1
  obtain ⟨ky, dy⟩ := y
  cases e2 : env[i]? with
  | none => rw [e2] at h1; exact h1.elim
  | some sl =>
    rw [e2] at h1
    cases sl with
    | e => exact h1.elim
    | d o x => exact h1.elim
    | src =>
      cases dy with
      | int n =>
        obtain rfl := v1.int
        have q2 := q1.put m n
        refine ⟨_, r1.src e2, B.S.a1, _, rfl, dput_fld q1 m n, ?_⟩
        exact h1 _ _ O (r1.ext Ex.upd1 q2) q2 ((r.hid e1).trans (r1.hid Ex.upd1))
      | _ => exact h1.elim
theorem js_srcP (hx : HX C k fns cns X) {i : Nat} {x : Str} {j j2 : Nat} {p p2 p3 p4 p5 p6 p7 p8 pos : Pos} (hN : X.N[i]? = some x) (hv : Vis X.env.scope x) (hd : (x == ("__debug__" : Str)) = false) (hcd : (x == ("__classdict__" : Str)) = false)
    (hl : (p7.endLine == p8.line) = true) :
    PS X (.Assign [.Subscript (.Name x p) (.Constant (.str "left") j p2) p3] (.Call (.Attribute (.Subscript (.Name x p4) (.Constant (.str "cells") j2 p5) p6) "pop" p7) [] [] p8) pos) (tS C X.K B W (.srcP i)) := by
  have hu : X.A.units + 1 < cLine := by have := hx.units; omega
  refine (ps_dput hu (pe_var hN hv hd hcd) pe_str (pe_bm0 PySem.F.plainAttrs_list PySem.F.slot_list_pop PySem.F.type_list_pop mt_pop (pe_dget hu (pe_var hN hv hd hcd) pe_str (fun _ _ => rfl)) rfl hl) rfl).weak fun N σ H => ?_
  rintro ⟨env, s, O, r, q, h⟩
  unfold evS at h
  cases e2 : env[i]? with
  | none => rw [e2] at h; exact h.elim
  | some sl =>
    rw [e2] at h
    cases sl with
    | e => exact h.elim
    | d o x => exact h.elim
    | src =>
      cases e3 : s.cells.getLast? with
      | none => rw [e3] at h; exact h.elim
      | some n =>
        rw [e3] at h
        have q2 : SrcR B.S (upd H B.S.a2 (.lst (s.cells.map V.int).dropLast)) { s with cells := s.cells.dropLast } :=
          ⟨q.1, by rw [upd_ne q.1]; exact q.2.1, by rw [upd_same, List.map_dropLast], tabs_upd q.2.2.1 (fun _ z => nomatch z) (fun _ z => nomatch z) q.2.2.2⟩
        have q3 := q2.put 0 n
        refine ⟨_, r.src e2, B.S.a1, V.ref B.S.a2, rfl, get_cells q, .inl ⟨rfl, _, .of q.2.2.1⟩, B.S.a2, s.cells.map V.int, .int n, rfl, rfl, q.2.2.1, ?_, ?_⟩
        · rw [List.length_map, List.getElem?_map, ← List.getLast?_eq_getElem?, e3]; rfl
        · have r2 := r.ext Ex.upd2 q2
          refine ⟨_, r2.src e2, B.S.a1, _, rfl, dput_fld q2 0 n, ?_⟩
          exact h _ _ O (r2.ext Ex.upd1 q3) q3 ((r.hid Ex.upd2).trans (r2.hid Ex.upd1))
end
end Tre
/-! TreH: told: a def that catches what its thunk raises. -/
namespace Tre
open PySem PySem.Spec PyProof.Rows L2 LamX
def noPar (a : Arguments) : Bool := a.posonlyargs.isEmpty && a.args.isEmpty && a.vararg.isNone && a.kwonlyargs.isEmpty && a.kw_defaults.isEmpty && a.kwarg.isNone && a.defaults.isEmpty
/-- what is told of such a def -/
def TdOk (C : Cf) (X : Cx) (k : Nat) (x : Str) (c : Nat) (okS badS : Str) : Prop := ∃ (P CS : Addr) (fld : Str), (∃ q, (P, q) ∈ C.ts) ∧ C.Xn c = some (CS, [fld]) ∧ PySem.W.exmOne X.K (.ref CS) (.ref CS) = some true ∧
  ∀ (params : Arguments) (body : Expr) (scope : Scope) (lpos p pos : Pos) (t : XK → TE), Gl X x → LamS X.env.scope scope → noPar params = true →
    (∀ (A : Around) (outer : List PySem.Env) (s : Shared) (H : Hp) (E : XK) (f c' : Addr), A.guards = some [] → Room k (A.deeper (lamEnv X scope s.heap.objs.size f c')) → PE (lamCx X A outer s H E scope f c') body (t E)) →
    PE X (.Call (.Name x p) [.Lambda params body scope lpos] [] pos) (tLamG P C.ts (TTas X.K CS okS badS fld) t)
section
variable {C : Cf} {k : Nat} {fns cns : List Str} {X : Cx} {B : Bx} {W : WX}
theorem je_told (hB : B.S.ts = C.ts) {x okS badS : Str} {c f : Nat} {t : T} {params : Arguments} {body : Expr} {scope : Scope} {lpos p pos : Pos} (td : TdOk C X k x c okS badS) (hg : Gl X x) (L : LamS X.env.scope scope) (hp : noPar params = true) (l1 : okS.length ≤ sizeLine) (l2 : PyData.strOk okS = true) (l3 : badS.length ≤ sizeLine) (l4 : PyData.strOk badS = true)
    (hbody : ∀ (A : Around) (outer : List PySem.Env) (s : Shared) (H : Hp) (E : XK) (f' c' : Addr), A.guards = some [] → Room k (A.deeper (lamEnv X scope s.heap.objs.size f' c')) → PE (lamCx X A outer s H E scope f' c') body (tE C X.K B (fun cls d _ H => E cls d H) (.call f t))) :
    JE C X B W (.Call (.Name x p) [.Lambda params body scope lpos] [] pos) (.told f c okS badS t) := by
  obtain ⟨P, CS, fld, ⟨qP, hP⟩, hXn, hex, rule⟩ := td
  refine .of ((rule params body scope lpos p pos (fun E => tE C X.K B (fun cls d _ H => E cls d H) (.call f t)) hg L hp hbody).weak fun σ H Q => ?_)
  rintro ⟨env, s, O, r, q, h⟩
  unfold evE at h
  have hT : Tabs C.ts H := hB ▸ q.2.2.2
  refine ⟨hT, fun H1 hk T1 => ?_⟩
  obtain ⟨ps, hPt, _⟩ := hT _ hP
  have hPt : H P = some (.tbl ps) := hPt
  have e1 : Ex B.S H H1 := fun b o e n => hk b o e fun z => n (.inr (.inr ⟨qP, by rw [hB, z]; exact hP⟩))
  have q1 : SrcR B.S H1 s := ⟨q.1, hk _ _ q.2.1 (fun z => by have := q.2.1; rw [z, hPt] at this; cases this), hk _ _ q.2.2.1 (fun z => by have := q.2.2.1; rw [z, hPt] at this; cases this), by rw [hB]; exact T1⟩
  have r1 := r.ext e1 q1
  refine ⟨env, s, O, r1, q1, ?_⟩
  unfold evE
  refine RQ.unbind ((h.bind.calm (W' := wX C X.K B (fun cls d _ H => _) σ H1)).mono (fun xs s1 h1 => ?_) fun _ _ _ z => z)
  cases hΦ : C.Φ f xs s1 with
  | stuck => rw [hΦ] at h1; exact h1.elim
  | ok y s2 =>
    rw [hΦ] at h1
    intro v H2 e2 q2 v2
    refine ⟨by show 2 ≤ sizeLine; decide, fun p hp => ?_⟩
    have r2 := r1.ext e2 q2
    have hpk : (if y.1 = true then Kd.own else Kd.frz) ≠ .peek := by split <;> exact fun z => nomatch z
    exact h1 (.ref p) _ (e1.trans (e2.trans (Ex.new hp))) (q2.same (same_new hp)) (new_tup (S := B.S) r2.dom hp (.cons (Rp.str _ l1 l2) (.cons (v2.frz r1.dom hpk) .nil)))
  | exc c' a s2 =>
    rw [hΦ] at h1
    match a, h1 with
    | [a1], h1 =>
      by_cases hc : c' = c
      · have h5 : RQ (if c' = c then R.ok (Kd.frz, PyData.tuple [PyData.str badS, a1]) s2 else R.stuck) (fun x s' => ∀ v H', Ex B.S H H' → SrcR B.S H' s' → VR X.K B.S O H H' x.1 v x.2 → Q v H') (wX C X.K B W σ H) := h1
        rw [if_pos hc] at h5
        subst hc
        intro H2 cls d e2 q2 xr
        obtain ⟨Cc, fs, x1, rfl, x2⟩ := xr
        rw [hXn] at x1
        cases x1
        rcases x2 with ⟨z, _⟩ | ⟨dd, vs, rfl, hdd, hl, hr⟩
        · cases z
        · match vs, hr with
          | [v], .cons hv .nil =>
            refine ⟨true, hex, fun _ => ⟨rfl, dd, _, v, rfl, hdd, by simp, fun p hp => ?_⟩, fun z => by cases z⟩
            have r2 := r1.ext e2 q2
            exact h5 (.ref p) _ (e1.trans (e2.trans (Ex.new hp))) (q2.same (same_new hp)) (new_tup (S := B.S) r2.dom hp (.cons (Rp.str _ l3 l4) (.cons (none_mono hv) .nil)))
      · have h1 : RQ (if c' = c then _ else _) _ _ := h1
        rw [if_neg hc] at h1
        exact h1.elim
    | [], h1 => exact h1.elim
    | _ :: _ :: _, h1 => exact h1.elim
end
end Tre
/-! Tre11: a tree fits a text: the check, and what it gives. -/
namespace Tre
open PySem PySem.Spec PyProof.Rows L2

/-! ### parts of the check -/
def bV (N : List Str) (sc : Scope) (i : Nat) (x : Str) : Bool :=
  decide (N[i]? = some x) && (decide (sc.names.lookup x = some .local) || decide (sc.names.lookup x = some .cell) || decide (sc.names.lookup x = some .free)) && (x == ("__debug__" : Str)) == false && (x == ("__classdict__" : Str)) == false
def bL (N : List Str) (sc : Scope) (fnn : Bool) (i : Nat) (x : Str) : Bool :=
  decide (N[i]? = some x) && (decide (sc.names.lookup x = some .local) || (fnn && decide (sc.names.lookup x = some .cell)))
def bG (sc : Scope) (x : Str) : Bool := decide (sc.names.lookup x = some .globalImplicit) && (x == ("__debug__" : Str)) == false
def notSet : Expr → Bool
  | .Set .. => false
  | _ => true
def isComp : Expr → Bool
  | .ListComp .. => true
  | .SetComp .. => true
  | .DictComp .. => true
  | _ => false
def isBo : Expr → Bool
  | .BoolOp _ (_ :: _ :: _) _ => true
  | _ => false
def isTup : Expr → Bool
  | .Tuple .. => true
  | .List .. => true
  | _ => false
def typN (t : String) : Bool := decide (t = "int") || decide (t = "bool") || decide (t = "str") || decide (t = "tuple") || decide (t = "list") || decide (t = "dict")
def ownsOf (N : List Str) (ws : List Nat) : List (Str × Nat) := ws.map fun i => ((N[i]?).getD default, i)
def bBlk (N : List Str) (sc scope : Scope) (ws : List Nat) : Bool :=
  decide (scope.kind = .function) && scope.names.all (fun y => decide (scope.names.lookup y.1 = some y.2)) && (ownsOf N ws).all (fun p => decide (N[p.2]? = some p.1))
  && scope.names.all (fun y => decide (y.2 ≠ .free) || decide (sc.names.lookup y.1 = some .cell) || decide (sc.names.lookup y.1 = some .free))
  && scope.names.all (fun y => !(decide (y.2 = .local) || decide (y.2 = .cell)) || (ownsOf N ws).any (fun p => decide (p.1 = y.1)) || N.all fun n => !decide (n = y.1))
def swB (sc scope : Scope) (y : Str) (py pos : Pos) : Bool :=
  decide (sc.names.lookup y = some .local) && (py.line == pos.line) && (scope.names.any fun (n, k) => n == y && (k == .local || k == .cell)) == false
/-- the stores changed in order: what the model answers -/
def swS (sc : Scope) (ts vs : List Expr) : Option (Option (List Str)) :=
  if !(ts.length == 2 || ts.length == 3) || vs.length != ts.length then some none
  else if vs.any (fun | .Starred .. => true | _ => false) then some none
  else
    let line := (ts.head?.map (·.pos.line)).getD 0
    let names := ts.filterMap fun
      | .Name id pos => if sc.names.lookup id == some .local && pos.line == line then some id else none
      | _ => none
    if names.length != ts.length || names.eraseDups.length != names.length then some none
    else if vs.all (foldedForSure 8) then some none
    else if vs.all (constantsAlone 8) then none
    else some (some names)
theorem swS_ok {sc : Scope} {env : PySem.Env} (hsc : env.scope = sc) (hk : sc.kind = .function) {ts vs : List Expr} {k k2 : Nat} {p p2 : Pos} {r : Option (List Str)} (h : swS sc ts vs = some r) :
    swappedStores [.Tuple ts k p] (.Tuple vs k2 p2) env = pure r := by
  subst hsc
  have hb : env.blockKind = .function := by unfold Env.blockKind; rw [hk]; rfl
  have hb2 : (env.blockKind != .function) = false := by rw [hb]; rfl
  unfold swS at h
  unfold swappedStores
  simp only [Env.kindOf, hb2, Bool.or_false]
  split at h
  · rename_i c; cases h; exact if_pos c
  rename_i c1; refine (if_neg c1).trans ?_
  split at h
  · rename_i c; cases h; exact if_pos c
  rename_i c2; refine (if_neg c2).trans ?_
  simp only at h
  split at h
  · rename_i c; cases h; exact if_pos c
  rename_i c3; refine (if_neg c3).trans ?_
  split at h
  · rename_i c; cases h; exact if_pos c
  rename_i c4; refine (if_neg c4).trans ?_
  split at h
  · cases h
  rename_i c5; refine (if_neg c5).trans ?_
  cases h
  rfl

def isCall : Expr → Bool
  | .Call .. => true
  | _ => false
theorem base_plain {o : Expr} {name : Str} {env : PySem.Env} {whole : Sem Value} (h : isCall o = false) : attributeBase o name env whole = whole := by
  cases o <;> first | rfl | cases h
def isTpl : Expr → Bool
  | .Tuple .. => true
  | _ => false
/-- what enumerate and zip ask of the target -/
def bTg : T → Expr → Bool
  | .enu _, x => isTpl x
  | .zip .., x => isTpl x
  | _, _ => true
def isYes : T → Bool
  | .c (.bool true) => true
  | _ => false
section
variable (N fns cns : List Str) (tds : List (Str × Nat × Str × Str)) (xcs : List (Str × Nat))
mutual
def chkE (sc : Scope) (fnn : Bool) : T → Expr → Bool
  | .c (.int i), .Constant (.int j) _ _ => decide (i = j)
  | .c (.bool i), .Constant (.bool j) _ _ => decide (i = j)
  | .c .none, .Constant .none _ _ => true
  | .c (.str x), .Constant (.str y) _ _ => decide (x = y) && decide (x.length ≤ sizeLine) && PyData.strOk x
  | .v i, .Name x _ => bV N sc i x
  | .g i, .Name x _ => decide (cns[i]? = some x) && bG sc x
  | .op o a b, .BinOp x o' y _ => decide (o = o') && chkE sc fnn a x && chkE sc fnn b y
  | .cmp o a b, .Compare x [o'] [y] _ => decide (o = o') && chkE sc fnn a x && chkE sc fnn b y && behindInMarks o' y == false
  | .cmp2 o p a b c, .Compare x [o', p'] [y, z] _ => decide (o = o') && decide (p = p') && chkE sc fnn a x && chkE sc fnn b y && chkE sc fnn c z && lastMarks [o', p'] [y, z] == false
  | .and a b, .BoolOp .And (x :: y :: r) pos => chkE sc fnn a x && (match r with
    | [] => chkE sc fnn b y
    | z :: r => chkE sc fnn b (.BoolOp .And (y :: z :: r) pos))
  | .or a b, .BoolOp .Or (x :: y :: r) pos => chkE sc fnn a x && (match r with
    | [] => chkE sc fnn b y
    | z :: r => chkE sc fnn b (.BoolOp .Or (y :: z :: r) pos))
  | .not a, .UnaryOp .Not x _ => chkE sc fnn a x
  | .neg a, .UnaryOp .USub x _ => chkE sc fnn a x
  | .ife c a b, .IfExp x y z _ => chkE sc fnn c x && chkE sc fnn a y && chkE sc fnn b z
  | .tup es, .Tuple xs _ _ => chkA sc fnn es xs
  | .lst es, .List xs _ => chkA sc fnn es xs
  | .sub a i, .Subscript x y _ => chkE sc fnn a x && chkE sc fnn i y && isSlice y == false
  | .sl a lo hi, .Subscript x (.Slice l h none _) _ => chkE sc fnn a x && chkO sc fnn lo l && chkO sc fnn hi h
  | .rev a, .Subscript x (.Slice none none (some (.UnaryOp .USub (.Constant (.int i) _ _) _)) _) _ => decide (i = 1) && chkE sc fnn a x
  | .call f es, .Call (.Name x _) xs [] _ => decide (fns[f]? = some x) && bG sc x && chkG sc fnn es xs && xs.all (fun e => !isStar e)
  | .bi b es, .Call (.Name x _) (y :: xs) [] _ => decide (x = biN b) && bG sc x && chkA sc fnn es (y :: xs) && (y :: xs).all (fun e => !isStar e)
  | .isi t a, .Call (.Name x _) [y, .Name z _] [] _ => decide (x = "isinstance") && bG sc x && typN t && decide (z = Str.ofString t) && bG sc z && chkE sc fnn a y && isStar y == false
  | .lc tg it cond elt ws, .ListComp y [⟨tx, ix, ifs, b⟩] scope _ => decide (b = 0) && chkI sc fnn it ix && bBlk N sc scope ws && (slotsT tg).all (fun j => decide (j ∈ ws)) && chkT (relS scope sc) false tg tx && (match ifs with
      | [] => isYes cond
      | [z] => chkE (relS scope sc) false cond z
      | _ => false) && chkE (relS scope sc) false elt y && notSet ix && bTg it tx
  | .me .join o (.cons a .nil), .Call (.Attribute x m p) [y] [] q => decide (m = "join") && chkE sc fnn o x && chkE sc fnn a y && isStar y == false && isCall x == false && (p.endLine == q.line)
  | .me .split o (.cons a .nil), .Call (.Attribute x m p) [y] [] q => decide (m = "split") && chkE sc fnn o x && chkE sc fnn a y && isStar y == false && isCall x == false && (p.endLine == q.line)
  | .told f c okS badS es, .Call (.Name x _) [.Lambda params (.Call (.Name g _) ys [] _) scope _] [] _ => fnn && decide ((x, c, okS, badS) ∈ tds) && bG sc x && LamX.lamSB sc scope && noPar params && decide (okS.length ≤ sizeLine) && PyData.strOk okS && decide (badS.length ≤ sizeLine) && PyData.strOk badS
    && decide (fns[f]? = some g) && bG scope g && chkG scope false es ys && ys.all (fun e => !isStar e)
  | .srcG k i, .Subscript (.Name x _) (.Constant (.str f) _ _) _ => bV N sc i x && decide (f = fldN k)
  | .srcL i, .Call (.Name l _) [.Subscript (.Name x _) (.Constant (.str f) _ _) _] [] _ => bV N sc i x && bG sc l && decide (l = "len") && decide (f = "cells")
  | _, _ => false
def chkA (sc : Scope) (fnn : Bool) : T → List Expr → Bool
  | .nil, [] => true
  | .cons a r, x :: xs => chkE sc fnn a x && chkA sc fnn r xs && isStar x == false
  | _, _ => false
def chkG (sc : Scope) (fnn : Bool) : T → List Expr → Bool
  | .nil, [] => true
  | .cons a r, x :: xs => chkE sc fnn a x && chkG sc fnn r xs && isStar x == false
  | .csrc i r, .Name x _ :: xs => bV N sc i x && chkG sc fnn r xs
  | _, _ => false
def chkO (sc : Scope) (fnn : Bool) : T → Option Expr → Bool
  | .nil, none => true
  | .cons a .nil, some x => chkE sc fnn a x
  | _, _ => false
def chkI (sc : Scope) (fnn : Bool) : T → Expr → Bool
  | .it a, x => chkE sc fnn a x
  | .rng (.cons a .nil), .Call (.Name f _) [x] [] _ => decide (f = "range") && bG sc f && chkE sc fnn a x && isStar x == false
  | .rng (.cons a (.cons b .nil)), .Call (.Name f _) [x, y] [] _ => decide (f = "range") && bG sc f && chkE sc fnn a x && isStar x == false && chkE sc fnn b y && isStar y == false
  | .enu a, .Call (.Name f _) [x] [] _ => decide (f = "enumerate") && bG sc f && chkE sc fnn a x && isStar x == false
  | .rvd a, .Call (.Name f _) [x] [] _ => decide (f = "reversed") && bG sc f && chkE sc fnn a x && isStar x == false
  | .rvr (.cons a .nil), .Call (.Name f _) [.Call (.Name g _) [x] [] _] [] _ => decide (f = "reversed") && bG sc f && decide (g = "range") && bG sc g && chkE sc fnn a x && isStar x == false
  | _, _ => false
def chkT (sc : Scope) (fnn : Bool) : T → Expr → Bool
  | .v i, .Name x _ => bL N sc fnn i x
  | .ov i, .Name x _ => bL N sc fnn i x
  | .tup ts, .Tuple xs _ _ => chkTs sc fnn ts xs
  | _, _ => false
def chkTs (sc : Scope) (fnn : Bool) : T → List Expr → Bool
  | .nil, [] => true
  | .cons a r, x :: xs => chkT sc fnn a x && chkTs sc fnn r xs && isStar x == false
  | _, _ => false
end
/-- each name of a row, its slot -/
def bNames (sc : Scope) : List Expr → List Nat → Bool
  | [], [] => true
  | .Name x _ :: es, i :: is => bL N sc true i x && bNames sc es is
  | _, _ => false
def isV : T → Bool
  | .v _ => true
  | .ov _ => true
  | _ => false
def asgB (sc : Scope) (tg : T) (x y : Expr) : Bool := (match x, y with
    | .Name n pn, .ListComp _ [_] scope pc => !swB sc scope n pn pc || isV tg
    | .Name _ _, y => isComp y == false
    | .Tuple _ _ _, y => isComp y == false && isTup y == false
    | _, _ => false)
def parB (sc : Scope) (tgs : T) (xs ys : List Expr) : Bool := (match swS sc xs ys, namesT tgs, xs with
    | some none, some is, _ => bNames N sc xs is && decide (xs.length = is.length) && decide (is.length ≤ 1000)
    | some (some [x, y]), some [i, j], [.Name x' _, .Name y' _] => decide (x = x') && decide (y = y') && decide (N[i]? = some x) && decide (N[j]? = some y) && decide (i ≠ j) && decide (sc.names.lookup x = some .local) && decide (sc.names.lookup y = some .local) && decide (ys.length = 2)
    | some (some [x, y, z]), some [i, j, l], [.Name x' _, .Name y' _, .Name z' _] => decide (x = x') && decide (y = y') && decide (z = z') && decide (N[i]? = some x) && decide (N[j]? = some y) && decide (N[l]? = some z) && decide (i ≠ j) && decide (i ≠ l) && decide (j ≠ l) && decide (sc.names.lookup x = some .local) && decide (sc.names.lookup y = some .local) && decide (sc.names.lookup z = some .local) && decide (ys.length = 3)
    | _, _, _ => false)
mutual
def chkSs (sc : Scope) : T → List Stmt → Bool
  | .nil, [] => true
  | .seq a r, x :: xs => chkS sc a x && chkSs sc r xs
  | .fz _ r, xs => chkSs sc r xs
  | .kl _ r, xs => chkSs sc r xs
  | _, _ => false
def chkS (sc : Scope) : T → Stmt → Bool
  | .pass, .Pass _ => true
  | .brk, .Break _ => true
  | .cnt, .Continue _ => true
  | .ex a, .Expr x _ => chkE N fns cns tds sc true a x && isComp x == false
  | .ret a, .Return (some x) _ => chkE N fns cns tds sc true a x
  | .retv i, .Return (some (.Name x _)) _ => bV N sc i x
  | .retn, .Return none _ => true
  | .ifs c a b, .If x y z _ => chkE N fns cns tds sc true c x && chkSs sc a y && chkSs sc b z
  | .wh _ c b, .While x y [] _ => chkE N fns cns tds sc true c x && chkSs sc b y
  | .for tg it b, .For x y z [] _ => chkT N fns cns tds sc true tg x && chkI N fns cns tds sc true it y && chkSs sc b z && notSet y && bTg it x
  | .asg tg e, .Assign [x] y _ => chkE N fns cns tds sc true e y && chkT N fns cns tds sc true tg x && asgB sc tg x y
  | .par tgs es, .Assign [.Tuple xs _ _] (.Tuple ys _ _) _ => chkA N fns cns tds sc true es ys && parB N sc tgs xs ys
  | .setx i ix e, .Assign [.Subscript (.Name x _) y _] z _ => bV N sc i x && chkE N fns cns tds sc true ix y && chkE N fns cns tds sc true e z && isSlice y == false
  | .aug i o e, .AugAssign (.Name x _) o' y _ => bL N sc true i x && decide (o = o') && chkE N fns cns tds sc true e y
  | .augx i ix o e, .AugAssign (.Subscript (.Name x _) y _) o' z _ => bV N sc i x && decide (o = o') && chkE N fns cns tds sc true ix y && chkE N fns cns tds sc true e z && isSlice y == false
  | .app i e, .Expr (.Call (.Attribute (.Name x _) m p) [y] [] q) _ => decide (m = "append") && bV N sc i x && chkE N fns cns tds sc true e y && isStar y == false && (p.endLine == q.line)
  | .ext i e, .Expr (.Call (.Attribute (.Name x _) m p) [y] [] q) _ => decide (m = "extend") && bV N sc i x && chkE N fns cns tds sc true e y && isStar y == false && (p.endLine == q.line)
  | .raise c ar t, .Raise (some (.Call (.Name x _) (y :: ys) [] _)) none _ => decide (xcs[c]? = some (x, ar)) && bG sc x && chkA N fns cns tds sc true t (y :: ys) && (y :: ys).all (fun e => !isStar e) && decide ((y :: ys).length = ar) && decide (ar ≤ 1000)
  | .srcS k i e, .Assign [.Subscript (.Name x _) (.Constant (.str f) _ _) _] y _ => bV N sc i x && decide (f = fldN k) && chkE N fns cns tds sc true e y
  | .srcP i, .Assign [.Subscript (.Name x _) (.Constant (.str f) _ _) _] (.Call (.Attribute (.Subscript (.Name y _) (.Constant (.str g) _ _) _) m p) [] [] q) _ => bV N sc i x && decide (x = y) && decide (f = "left") && decide (g = "cells") && decide (m = "pop") && (p.endLine == q.line)
  | .popS i, .Expr (.Call (.Attribute (.Name x _) m p) [] [] q) _ => decide (m = "pop") && bV N sc i x && (p.endLine == q.line)
  | _, _ => false
end
end
end Tre
set_option maxHeartbeats 2000000
/-! Tre12: what the check gives. -/
namespace Tre
open PySem PySem.Spec PyProof.Rows L2

structure AX (C : Cf) (k : Nat) (fns cns N : List Str) (X : Cx) (sc : Scope) (fnn : Bool) (W : WX) (B : Bx) : Prop where
  hx : HX C k fns cns X
  N : X.N = N
  sc : X.env.scope = sc
  tk : Takes X W
  fn : fnn = true → ∀ x, X.fn x = true
  hB : B.S.ts = C.ts
  td : fnn = true → ∀ (x : Str) (c : Nat) (okS badS : Str), (x, c, okS, badS) ∈ C.tds → TdOk C X k x c okS badS
theorem takes0 {X : Cx} : Takes X W0 := fun _ _ ⟨_, _, _, _, _, _, _, _, _, _, _, _, _, _, _, _, w⟩ => w.elim
/-- an expression, its place among and, or -/
structure JX (C : Cf) (X : Cx) (B : Bx) (W : WX) (x : Expr) (t : T) : Prop where
  j : JE C X B W x t
  w : isBo x = true → JW C X B W x t

section
variable {C : Cf} {k : Nat} {fns cns N : List Str}
theorem AX.v {X : Cx} {sc : Scope} {fnn : Bool} {W : WX} {B : Bx} (a : AX C k fns cns N X sc fnn W B) {i : Nat} {x : Str} (h : bV N sc i x = true) :
    X.N[i]? = some x ∧ Vis X.env.scope x ∧ (x == ("__debug__" : Str)) = false ∧ (x == ("__classdict__" : Str)) = false := by
  unfold bV at h
  simp only [Bool.and_eq_true, Bool.or_eq_true, decide_eq_true_eq, beq_iff_eq] at h
  obtain ⟨⟨⟨h1, h2⟩, h3⟩, h4⟩ := h
  rw [a.N, a.sc]
  exact ⟨h1, (or_assoc.mp h2), h3, h4⟩
theorem AX.l {X : Cx} {sc : Scope} {fnn : Bool} {W : WX} {B : Bx} (a : AX C k fns cns N X sc fnn W B) {i : Nat} {x : Str} (h : bL N sc fnn i x = true) :
    X.N[i]? = some x ∧ Loc X.env.scope x ∧ (X.fn x = true ∨ X.env.scope.names.lookup x = some .local) := by
  unfold bL at h
  simp only [Bool.and_eq_true, Bool.or_eq_true, decide_eq_true_eq] at h
  rw [a.N, a.sc]
  refine ⟨h.1, ?_, ?_⟩
  · exact h.2.imp id fun z => z.2
  · rcases h.2 with z | z
    · exact .inr z
    · exact .inl (a.fn z.1 x)
theorem AX.g {X : Cx} {sc : Scope} {fnn : Bool} {W : WX} {B : Bx} (a : AX C k fns cns N X sc fnn W B) {x : Str} (h : bG sc x = true) : Gl X x ∧ (x == ("__debug__" : Str)) = false := by
  unfold bG at h
  simp only [Bool.and_eq_true, decide_eq_true_eq, beq_iff_eq] at h
  refine ⟨?_, h.2⟩
  show X.env.scope.names.lookup x = _
  rw [a.sc]; exact h.1
theorem own_map {ws : List Nat} : (ownsOf N ws).map (·.2) = ws := by
  unfold ownsOf
  rw [List.map_map]
  exact List.map_id _
theorem AX.blk {X : Cx} {sc : Scope} {fnn : Bool} {W : WX} {B : Bx} (a : AX C k fns cns N X sc fnn W B) (scope : Scope) (s : Shared) (H : Hp) (A : Addr) (cl : List (Str × Addr)) (fp : List Addr) :
    AX C k fns cns N (X.blk s H scope (compEnvC scope cl A X.env) fp) (relS scope sc) false W0 B :=
  ⟨a.hx.blk, a.N, by rw [← a.sc]; rfl, takes0, (fun z => by cases z), a.hB, fun z => by cases z⟩
theorem AX.lam {X : Cx} {sc : Scope} {fnn : Bool} {W : WX} {B : Bx} (a : AX C k fns cns N X sc fnn W B) (scope : Scope) (A : Around) (outer : List PySem.Env) (s : Shared) (H : Hp) (E : XK) (f c' : Addr) (hA : A.guards = some []) (hr : Room k (A.deeper (LamX.lamEnv X scope s.heap.objs.size f c'))) :
    AX C k fns cns N (LamX.lamCx X A outer s H E scope f c') scope false (fun cls d _ H => E cls d H) B :=
  ⟨⟨a.hx.nd, rfl, hA, hr, a.hx.blt, a.hx.fn, a.hx.cn⟩, a.N, rfl, takes_of rfl rfl rfl rfl, (fun z => by cases z), a.hB, fun z => by cases z⟩
theorem AX.blkOk {X : Cx} {sc : Scope} {fnn : Bool} {W : WX} {B : Bx} (a : AX C k fns cns N X sc fnn W B) {scope : Scope} {ws : List Nat} (h : bBlk N sc scope ws = true) : BlkOk X.N X.env.scope scope (ownsOf N ws) := by
  unfold bBlk at h
  simp only [Bool.and_eq_true, decide_eq_true_eq, List.all_eq_true, Bool.or_eq_true, Bool.not_eq_true', decide_eq_false_iff_not, List.any_eq_true, Bool.or_eq_false_iff] at h
  obtain ⟨⟨⟨⟨h1, h2⟩, h3⟩, h4⟩, h5⟩ := h
  rw [a.N, a.sc]
  refine ⟨h1, fun y hy => h2 y hy, fun p hp => h3 p hp, fun y hy e => ?_, fun y hy e => ?_⟩
  · rcases h4 y hy with (z | z) | z
    · exact absurd e z
    · exact .inl z
    · exact .inr z
  · rcases h5 y hy with (z | z) | z
    · rcases e with e | e
      · exact absurd e z.1
      · exact absurd e z.2
    · obtain ⟨p, hp, e⟩ := z
      exact .inl (List.mem_map.mpr ⟨p, hp, e⟩)
    · exact .inr fun hm => z _ hm rfl
theorem set_plain {e : Expr} {env : PySem.Env} (h : notSet e = true) : ∀ x, foldedSetIterable e env x = pure x := fun x => by
  cases e <;> first | rfl | cases h
theorem comp_plain {e : Expr} {t : Option Expr} {l : Nat} {env : PySem.Env} (h : isComp e = false) : swapsWith e t l env = pure false := by
  cases e <;> first | rfl | cases h
theorem typN_or {t : String} (h : typN t = true) : t = "int" ∨ t = "bool" ∨ t = "str" ∨ t = "tuple" ∨ t = "list" ∨ t = "dict" := by
  unfold typN at h
  simp only [Bool.or_eq_true, decide_eq_true_eq, or_assoc] at h
  exact h
theorem bo_rest {op : BoolOp} {a b : Expr} {r : List Expr} {pos : Pos} : isBo (.BoolOp op (a :: b :: r) pos) = true := rfl

theorem isYes_eq {t : T} (h : isYes t = true) : t = .c (.bool true) := by
  unfold isYes at h
  split at h
  · rfl
  · cases h
theorem yes_ok {K : PySem.W.Frag} {B : Bx} {W : WX} {σ : L2.St} {H : Hp} {Q : Bool → Hp → Prop} (h : tT C K B W (.c (.bool true)) σ H Q) : Q true H := by
  obtain ⟨env, s, O, r, q, h⟩ := h
  unfold evE at h
  exact h H (Ex.refl _ _) q
mutual
theorem okE {X : Cx} {B : Bx} {W : WX} {sc : Scope} {fnn : Bool} (a : AX C k fns cns N X sc fnn W B) (t : T) (e : Expr) (h : chkE N fns cns C.tds sc fnn t e = true) : JX C X B W e t := by
  unfold chkE at h
  split at h
  all_goals try simp only [Bool.and_eq_true, decide_eq_true_eq, beq_iff_eq] at h
  · subst h; exact ⟨je_int, fun z => by cases z⟩
  · subst h; exact ⟨je_bl, fun z => by cases z⟩
  · exact ⟨je_non, fun z => by cases z⟩
  · obtain ⟨⟨rfl, h2⟩, h3⟩ := h; exact ⟨je_str h2 h3, fun z => by cases z⟩
  · obtain ⟨h1, h2, h3, h4⟩ := a.v h; exact ⟨je_v h1 h2 h3 h4, fun z => by cases z⟩
  · exact ⟨je_g a.hx h.1 (a.g h.2).1 (a.g h.2).2, fun z => by cases z⟩
  · obtain ⟨⟨rfl, h2⟩, h3⟩ := h; exact ⟨je_op _ (okE a _ _ h2).j (okE a _ _ h3).j, fun z => by cases z⟩
  · obtain ⟨⟨⟨rfl, h2⟩, h3⟩, h4⟩ := h; exact ⟨je_cmp a.hx _ (okE a _ _ h2).j (okE a _ _ h3).j h4, fun z => by cases z⟩
  · obtain ⟨⟨⟨⟨⟨rfl, rfl⟩, h2⟩, h3⟩, h4⟩, h5⟩ := h; exact ⟨je_cmp2 a.hx _ _ (okE a _ _ h2).j (okE a _ _ h3).j (okE a _ _ h4).j h5, fun z => by cases z⟩
  · rename_i ta tb x y r pos
    obtain ⟨h1, h2⟩ := h
    have j : JW C X B W (.BoolOp .And (x :: y :: r) pos) (.and ta tb) := by
      split at h2
      · exact jw_and (okE a _ _ h1).j (jw_bo1 (okE a _ _ h2).j)
      · exact jw_and (okE a _ _ h1).j ((okE a _ _ h2).w rfl)
    exact ⟨j.je, fun _ => j⟩
  · rename_i ta tb x y r pos
    obtain ⟨h1, h2⟩ := h
    have j : JW C X B W (.BoolOp .Or (x :: y :: r) pos) (.or ta tb) := by
      split at h2
      · exact jw_or (okE a _ _ h1).j (jw_bo1 (okE a _ _ h2).j)
      · exact jw_or (okE a _ _ h1).j ((okE a _ _ h2).w rfl)
    exact ⟨j.je, fun _ => j⟩
  · exact ⟨je_not (okE a _ _ h).j, fun z => by cases z⟩
  · exact ⟨je_neg (okE a _ _ h).j, fun z => by cases z⟩
  · exact ⟨je_ife (okE a _ _ h.1.1).j (okE a _ _ h.1.2).j (okE a _ _ h.2).j, fun z => by cases z⟩
  · exact ⟨je_tup (okA a _ _ h), fun z => by cases z⟩
  · exact ⟨je_lst (okA a _ _ h), fun z => by cases z⟩
  · exact ⟨je_sub (okE a _ _ h.1.1).j (okE a _ _ h.1.2).j h.2, fun z => by cases z⟩
  · exact ⟨je_sl (okE a _ _ h.1.1).j (okO a _ _ h.1.2) (okO a _ _ h.2), fun z => by cases z⟩
  · obtain ⟨rfl, h2⟩ := h; exact ⟨je_rev (okE a _ _ h2).j, fun z => by cases z⟩
  · rename_i f es x _ xs _
    obtain ⟨⟨⟨h1, h2⟩, h3⟩, h4⟩ := h
    refine ⟨?_, fun z => by cases z⟩
    cases xs with
    | nil =>
      have e : es = .nil := by cases es <;> first | rfl | (unfold chkG at h3; cases h3)
      subst e
      exact je_call0 a.hx a.hB a.tk h1 (a.g h2).1 (a.g h2).2
    | cons y ys => exact je_call a.hx a.hB a.tk h1 (a.g h2).1 (okG a _ _ h3) h4 (a.g h2).2
  · obtain ⟨⟨⟨rfl, h2⟩, h3⟩, h4⟩ := h
    exact ⟨je_bi a.hx (a.g h2).1 (okA a _ _ h3) h4, fun z => by cases z⟩
  · obtain ⟨⟨⟨⟨⟨⟨rfl, h1⟩, h2⟩, h3⟩, h4⟩, h5⟩, h6⟩ := h
    exact ⟨je_isi a.hx (typN_or h2) h3 (a.g h1).1 (a.g h4).1 (okE a _ _ h5).j h6, fun z => by cases z⟩
  · obtain ⟨⟨⟨⟨⟨⟨⟨⟨rfl, h1⟩, h2⟩, h3⟩, h4⟩, h5⟩, h6⟩, h7⟩, h8⟩ := h
    rename_i tg it cond elt ws y tx ix ifs scope pos
    have j := je_lc (W := W) (pos := pos) a.hx (okI a (tg := tx) _ _ h8 h1) (a.blkOk h2) (tt := tg) (by rw [own_map]; simpa using h3) (fun s H A cl fp => okTt (a.blk scope s H A cl fp) _ _ h4)
      (fun s H A cl fp => (by
        split at h5
        · have h5 := isYes_eq h5
          subst h5
          exact ⟨fun pins s σ H Q I hw => pts_nil.run pins s σ H Q I (yes_ok hw)⟩
        · exact pts_one (okE (a.blk scope s H A cl fp) _ _ h5).j.t
        · cases h5) : ∀ (s : Shared) (H : Hp) (A : Addr) (cl : List (Str × Addr)) (fp : List Addr), PTs (X.blk s H scope (compEnvC scope cl A X.env) fp) ifs (tT C X.K B W0 cond))
      (fun s H A cl fp => (okE (a.blk scope s H A cl fp) _ _ h6).j.e) (set_plain h7)
    rw [own_map] at j
    exact ⟨.of j.1, fun z => by cases z⟩
  · obtain ⟨⟨⟨⟨⟨rfl, h1⟩, h2⟩, h3⟩, h4⟩, h5⟩ := h
    exact ⟨je_join (okE a _ _ h1).j (okE a _ _ h2).j h3 (base_plain h4) (beq_iff_eq.mpr h5), fun z => by cases z⟩
  · obtain ⟨⟨⟨⟨⟨rfl, h1⟩, h2⟩, h3⟩, h4⟩, h5⟩ := h
    exact ⟨je_split (okE a _ _ h1).j (okE a _ _ h2).j h3 (base_plain h4) (beq_iff_eq.mpr h5), fun z => by cases z⟩
  · rename_i f c okS badS es x p params g p2 ys p3 scope p4 p5
    obtain ⟨⟨⟨⟨⟨⟨⟨⟨⟨⟨⟨⟨rfl, h1⟩, h2⟩, h3⟩, h4⟩, h5⟩, h6⟩, h7⟩, h8⟩, h9⟩, h10⟩, h11⟩, h12⟩ := h
    refine ⟨je_told a.hB (a.td rfl x c okS badS h1) (a.g h2).1 (by rw [a.sc]; exact LamX.lamS_by h3) h4 h5 h6 h7 h8 fun A outer s H E f' c' hA hr => ?_, fun z => by cases z⟩
    have b := a.lam scope A outer s H E f' c' hA hr
    cases ys with
    | nil =>
      have e : es = .nil := by cases es <;> first | rfl | (unfold chkG at h11; cases h11)
      subst e
      exact (je_call0 b.hx b.hB b.tk h9 (b.g h10).1 (b.g h10).2).e
    | cons y ys => exact (je_call b.hx b.hB b.tk h9 (b.g h10).1 (okG b _ _ h11) h12 (b.g h10).2).e
  · obtain ⟨h1, h2⟩ := h
    obtain ⟨g1, g2, g3, g4⟩ := a.v h1
    exact ⟨je_srcG a.hx g1 g2 g3 g4 h2, fun z => by cases z⟩
  · obtain ⟨⟨⟨h1, h2⟩, rfl⟩, rfl⟩ := h
    obtain ⟨g1, g2, g3, g4⟩ := a.v h1
    exact ⟨je_srcL a.hx (a.g h2).1 g1 g2 g3 g4, fun z => by cases z⟩
  · cases h
  termination_by t
theorem okA {X : Cx} {B : Bx} {W : WX} {sc : Scope} {fnn : Bool} (a : AX C k fns cns N X sc fnn W B) (t : T) (es : List Expr) (h : chkA N fns cns C.tds sc fnn t es = true) : PA X es (tA C X.K B W t) := by
  unfold chkA at h
  split at h
  · exact ja_nil
  · simp only [Bool.and_eq_true, beq_iff_eq] at h
    exact ja_cons (okE a _ _ h.1.1).j (okA a _ _ h.1.2) h.2
  · cases h
  termination_by t
theorem okG {X : Cx} {B : Bx} {W : WX} {sc : Scope} {fnn : Bool} (a : AX C k fns cns N X sc fnn W B) (t : T) (es : List Expr) (h : chkG N fns cns C.tds sc fnn t es = true) : PA X es (tG C X.K B W t) := by
  unfold chkG at h
  split at h
  · exact jg_nil
  · simp only [Bool.and_eq_true, beq_iff_eq] at h
    exact jg_cons (okE a _ _ h.1.1).j (okG a _ _ h.1.2) h.2
  · simp only [Bool.and_eq_true] at h
    obtain ⟨h1, h2, h3, h4⟩ := a.v h.1
    exact jg_src h1 h2 h3 h4 (okG a _ _ h.2)
  · cases h
  termination_by t
theorem okO {X : Cx} {B : Bx} {W : WX} {sc : Scope} {fnn : Bool} (a : AX C k fns cns N X sc fnn W B) (t : T) (o : Option Expr) (h : chkO N fns cns C.tds sc fnn t o = true) : PO X o (tO C X.K B W t) := by
  unfold chkO at h
  split at h
  · exact jo_none
  · exact jo_some (okE a _ _ h).j
  · cases h
  termination_by t
theorem okI {X : Cx} {B : Bx} {W : WX} {sc : Scope} {fnn : Bool} (a : AX C k fns cns N X sc fnn W B) {tg : Expr} (t : T) (e : Expr) (hb : bTg t tg = true) (h : chkI N fns cns C.tds sc fnn t e = true) : PI X tg e (tI C X.K B W t) := by
  unfold chkI at h
  split at h
  all_goals try simp only [Bool.and_eq_true, decide_eq_true_eq, beq_iff_eq] at h
  · exact ji_it (okE a _ _ h).j
  · obtain ⟨⟨⟨rfl, h1⟩, h2⟩, h3⟩ := h
    exact ji_rng1 a.hx (a.g h1).1 (okE a _ _ h2).j h3
  · obtain ⟨⟨⟨⟨⟨rfl, h1⟩, h2⟩, h3⟩, h4⟩, h5⟩ := h
    exact ji_rng2 a.hx (a.g h1).1 (okE a _ _ h2).j (okE a _ _ h4).j h3 h5
  · obtain ⟨⟨⟨rfl, h1⟩, h2⟩, h3⟩ := h
    cases tg with
    | Tuple elts kk tpos => exact ji_enu a.hx (a.g h1).1 (okE a _ _ h2).j h3
    | _ => cases hb
  · obtain ⟨⟨⟨rfl, h1⟩, h2⟩, h3⟩ := h
    exact ji_rvd a.hx (a.g h1).1 (okE a _ _ h2).j h3
  · obtain ⟨⟨⟨⟨⟨rfl, h1⟩, rfl⟩, h2⟩, h3⟩, h4⟩ := h
    exact ji_rvr1 a.hx (a.g h1).1 (a.g h2).1 (okE a _ _ h3).j h4
  · cases h
  termination_by t
theorem okTt {X : Cx} {B : Bx} {W : WX} {sc : Scope} {fnn : Bool} (a : AX C k fns cns N X sc fnn W B) (t : T) (e : Expr) (h : chkT N fns cns C.tds sc fnn t e = true) : PG X e (tGt X.K B t) := by
  unfold chkT at h
  split at h
  · obtain ⟨h1, h2, h3⟩ := a.l h
    exact jt_v a.hx.nd h1 h2 h3
  · obtain ⟨h1, h2, h3⟩ := a.l h
    exact jt_ov a.hx.nd h1 h2 h3
  · exact jt_tup a.hx.calm (okTs a _ _ h)
  · cases h
  termination_by t
theorem okTs {X : Cx} {B : Bx} {W : WX} {sc : Scope} {fnn : Bool} (a : AX C k fns cns N X sc fnn W B) (t : T) (es : List Expr) (h : chkTs N fns cns C.tds sc fnn t es = true) : JTs X B es t := by
  unfold chkTs at h
  split at h
  · exact jts_nil
  · simp only [Bool.and_eq_true, beq_iff_eq] at h
    exact jts_cons (okTt a _ _ h.1.1) (okTs a _ _ h.1.2) h.2
  · cases h
  termination_by t
end
end
end Tre
set_option maxHeartbeats 2000000
/-! Tre13: what the check gives for statements. -/
namespace Tre
open PySem PySem.Spec PyProof.Rows L2

structure AS (C : Cf) (k : Nat) (fns cns N : List Str) (X : Cx) (sc : Scope) (W : WX) (B : Bx) : Prop where
  hB : B.S.ts = C.ts
  td : ∀ (x : Str) (c : Nat) (okS badS : Str), (x, c, okS, badS) ∈ C.tds → TdOk C X k x c okS badS
  sx : SX C k fns cns X W
  N : X.N = N
  sc : X.env.scope = sc
section
variable {C : Cf} {k : Nat} {fns cns N : List Str} {X : Cx} {B : Bx} {W : WX} {sc : Scope}
theorem AS.ax (a : AS C k fns cns N X sc W B) : AX C k fns cns N X sc true W B := ⟨a.sx.hx, a.N, a.sc, a.sx.tk, fun _ => a.sx.fn, a.hB, fun _ => a.td⟩
theorem bNames_ok (a : AS C k fns cns N X sc W B) : ∀ {es : List Expr} {is : List Nat}, bNames N sc es is = true → ∀ (n : Nat) (e : Expr), es[n]? = some e → ∃ x p i, e = .Name x p ∧ is[n]? = some i ∧ X.N[i]? = some x ∧ Loc X.env.scope x
  | [], [], _, n, e, h => by simp at h
  | .Name x p :: es, i :: is, h, 0, e, he => by
    unfold bNames at h
    simp only [Bool.and_eq_true] at h
    obtain ⟨h1, h2, _⟩ := a.ax.l h.1
    cases he
    exact ⟨x, p, i, rfl, rfl, h1, h2⟩
  | .Name x p :: es, i :: is, h, n + 1, e, he => by
    unfold bNames at h
    simp only [Bool.and_eq_true] at h
    exact bNames_ok a h.2 n e he
theorem tgt_eq {tg : Expr} {X : Cx} (h : isStar tg = false) : (assignEach [tg] X.env).map (·.2) = [assign tg X.env] := by
  cases tg <;> first | rfl | cases h
theorem sole_eq {x v : Expr} {l : Nat} {env : PySem.Env} : swapsWithSole [x] v l env = swapsWith v (some x) l env := rfl
theorem isV_or {t : T} (h : isV t = true) : ∃ i, t = .v i ∨ t = .ov i := by
  unfold isV at h
  split at h
  · exact ⟨_, .inl rfl⟩
  · exact ⟨_, .inr rfl⟩
  · cases h
theorem names2 {t : T} : ∀ {is : List Nat}, namesT t = some is → t = is.foldr (fun i r => .cons (.ov i) r) .nil := by
  unfold namesT
  split
  · intro is e; cases e; rfl
  · intro is e
    obtain ⟨js, e1, e2⟩ := Option.map_eq_some_iff.mp e
    subst e2
    rw [List.foldr_cons, ← names2 e1]
  · intro is e; cases e
theorem okLc (a : AX C k fns cns N X sc true W B) {tg it cond elt : T} {ws : List Nat} {y tx ix : Expr} {ifs : List Expr} {b : Int} {scope : Scope} {pos : Pos} (h : chkE N fns cns C.tds sc true (.lc tg it cond elt ws) (.ListComp y [⟨tx, ix, ifs, b⟩] scope pos) = true) :
    b = 0 ∧ PI X tx ix (tI C X.K B W it) ∧ BlkOk X.N X.env.scope scope (ownsOf N ws) ∧ (∀ j ∈ slotsT tg, j ∈ (ownsOf N ws).map (·.2)) ∧
    (∀ (s : Shared) (H : Hp) (A : Addr) (cl : List (Str × Addr)) (fp : List Addr), PG (X.blk s H scope (compEnvC scope cl A X.env) fp) tx (tGt X.K B tg)) ∧
    (∀ (s : Shared) (H : Hp) (A : Addr) (cl : List (Str × Addr)) (fp : List Addr), PTs (X.blk s H scope (compEnvC scope cl A X.env) fp) ifs (tT C X.K B W0 cond)) ∧
    (∀ (s : Shared) (H : Hp) (A : Addr) (cl : List (Str × Addr)) (fp : List Addr), PE (X.blk s H scope (compEnvC scope cl A X.env) fp) y (tE C X.K B W0 elt)) ∧ ∀ x, foldedSetIterable ix X.env x = pure x := by
  unfold chkE at h
  simp only [Bool.and_eq_true, decide_eq_true_eq, beq_iff_eq] at h
  obtain ⟨⟨⟨⟨⟨⟨⟨⟨rfl, h1⟩, h2⟩, h3⟩, h4⟩, h5⟩, h6⟩, h7⟩, h8⟩ := h
  refine ⟨rfl, okI a (tg := tx) _ _ h8 h1, a.blkOk h2, by rw [own_map]; simpa using h3, fun s H A cl fp => okTt (a.blk scope s H A cl fp) _ _ h4, fun s H A cl fp => ?_, fun s H A cl fp => (okE (a.blk scope s H A cl fp) _ _ h6).j.e, set_plain h7⟩
  split at h5
  · have h5 := isYes_eq h5
    subst h5
    exact ⟨fun pins s σ H Q I hw => pts_nil.run pins s σ H Q I (yes_ok hw)⟩
  · exact pts_one (okE (a.blk scope s H A cl fp) _ _ h5).j.t
  · cases h5
/-- a value stored -/
theorem okAsg (a : AS C k fns cns N X sc W B) {tg e : T} {x y : Expr} {pos : Pos} (he : chkE N fns cns C.tds sc true e y = true) (hg : chkT N fns cns C.tds sc true tg x = true) (hm : asgB sc tg x y = true) : PS X (.Assign [x] y pos) (tS C X.K B W (.asg tg e)) := by
  have hk : sc.kind = .function := by rw [← a.sc]; exact a.sx.kind
  unfold asgB at hm
  split at hm
  · rename_i n pn elt c scope pc
    have hb : X.env.blockKind = .function := by unfold Env.blockKind; rw [a.sx.kind]; rfl
    by_cases hw : swB sc scope n pn pc = true
    · rw [hw] at hm
      obtain ⟨i, hi⟩ := isV_or hm
      have hg' := hg
      have hl : bL N sc true i n = true := by rcases hi with rfl | rfl <;> (unfold chkT at hg'; exact hg')
      obtain ⟨h1, h2, _⟩ := a.ax.l hl
      unfold swB at hw
      simp only [Bool.and_eq_true, decide_eq_true_eq, beq_iff_eq] at hw
      cases e with
      | lc tg' it cond elt' ws =>
        obtain ⟨tx, ix, ifs, b⟩ := c
        obtain ⟨rfl, j1, j2, j3, j4, j5, j6, j7⟩ := okLc (B := B) a.ax he
        have := js_asgLc (spos := pos) (py := pn) (pos := pc) a.sx hi h1 (by rw [a.sc]; exact hw.1.1) (sw_true (by rw [a.sc]; exact hk) (by rw [a.sc]; exact hw.1.1) (beq_iff_eq.mpr hw.1.2) hw.2) j1 j2 j3 j4 j5 j6 j7
        rw [own_map] at this
        exact this
      | _ => unfold chkE at he; simp at he
    · refine js_asg (okE a.ax _ _ he).j (okTt a.ax _ _ hg) ?_ rfl rfl
      have hw : swB sc scope n pn pc = false := by simpa using hw
      unfold swB at hw
      rw [sole_eq]
      unfold swapsWith
      have e2 : (X.env.blockKind == .function && X.env.kindOf n == some .local && pn.line == pc.line && !(scope.names.any fun (m, k) => m == n && (k == .local || k == .cell))) = false := by
        rw [hb]
        have e3 : X.env.kindOf n = sc.names.lookup n := by rw [← a.sc]; rfl
        rw [e3]
        cases h1 : decide (sc.names.lookup n = some NameKind.local) with
        | false =>
          have : (sc.names.lookup n == some NameKind.local) = false := by simpa using h1
          rw [this]; simp
        | true =>
          rw [h1] at hw
          cases h2 : (pn.line == pc.line) with
          | false => simp
          | true =>
            rw [h2] at hw
            simp only [Bool.true_and, beq_eq_false_iff_ne, ne_eq, Bool.not_eq_false] at hw
            rw [hw]; simp
      simp only [Expr.pos]
      show (pure _ : Sem Bool) = _
      rw [e2]
  · rename_i n pn z hz
    rw [beq_iff_eq] at hm
    exact js_asg (okE a.ax _ _ he).j (okTt a.ax _ _ hg) (sole_eq.trans (comp_plain hm)) rfl rfl
  · rename_i es kk pt z
    simp only [Bool.and_eq_true, beq_iff_eq] at hm
    refine js_asg (okE a.ax _ _ he).j (okTt a.ax _ _ hg) (sole_eq.trans (comp_plain hm.1)) ?_ rfl
    have := hm.2
    cases y <;> first | rfl | cases this
  · cases hm
theorem okPar (a : AS C k fns cns N X sc W B) {tgs es : T} {xs ys : List Expr} {kt k2 : Nat} {pt pt2 pos : Pos} (ha : chkA N fns cns C.tds sc true es ys = true) (hm : parB N sc tgs xs ys = true) (hp : PA X ys (tP C X.K B W es)) : PS X (.Assign [.Tuple xs kt pt] (.Tuple ys k2 pt2) pos) (tS C X.K B W (.par tgs es)) := by
  have hk : sc.kind = .function := by rw [← a.sc]; exact a.sx.kind
  unfold parB at hm
  split at hm
  · rename_i is h2 h1
    simp only [Bool.and_eq_true, decide_eq_true_eq] at hm
    exact js_parG a.sx h2 (bNames_ok a hm.1.1) hm.1.2 hm.2 hp (swS_ok a.sc hk h1)
  · rename_i x y i j x' px y' py h2 h1
    simp only [Bool.and_eq_true, decide_eq_true_eq] at hm
    obtain ⟨⟨⟨⟨⟨⟨⟨rfl, rfl⟩, g1⟩, g2⟩, g3⟩, g4⟩, g5⟩, g6⟩ := hm
    have e := names2 h2
    subst e
    match ys, g6 with
    | [u, v], _ => exact js_par2 a.sx (by rw [a.N]; exact g1) (by rw [a.N]; exact g2) g3 (by rw [a.sc]; exact g4) (by rw [a.sc]; exact g5) hp (swS_ok a.sc hk h1)
  · rename_i x y z i j l x' px y' py z' pz h2 h1
    simp only [Bool.and_eq_true, decide_eq_true_eq] at hm
    obtain ⟨⟨⟨⟨⟨⟨⟨⟨⟨⟨⟨⟨rfl, rfl⟩, rfl⟩, g1⟩, g2⟩, g2'⟩, g3⟩, g3'⟩, g3''⟩, g4⟩, g5⟩, g5'⟩, g6⟩ := hm
    have e := names2 h2
    subst e
    match ys, g6 with
    | [u, v, w], _ => exact js_par3 a.sx (by rw [a.N]; exact g1) (by rw [a.N]; exact g2) (by rw [a.N]; exact g2') g3 g3' g3'' (by rw [a.sc]; exact g4) (by rw [a.sc]; exact g5) (by rw [a.sc]; exact g5') hp (swS_ok a.sc hk h1)
  · cases hm
theorem okP (a : AX C k fns cns N X sc true W B) (t : T) (es : List Expr) (h : chkA N fns cns C.tds sc true t es = true) : PA X es (tP C X.K B W t) := by
  unfold chkA at h
  split at h
  · exact jp_nil
  · simp only [Bool.and_eq_true, beq_iff_eq] at h
    exact jp_cons (okE a _ _ h.1.1).j (okP a _ _ h.1.2) h.2
  · cases h
  termination_by t

mutual
theorem okSs (a : AS C k fns cns N X sc W B) (t : T) (ss : List Stmt) (h : chkSs N fns cns C.tds C.xcs sc t ss = true) : PSs X ss (tS C X.K B W t) := by
  unfold chkSs at h
  split at h
  · exact jss_nil
  · simp only [Bool.and_eq_true] at h
    exact jss_cons (okS a _ _ h.1) (okSs a _ _ h.2)
  · exact jss_fz (okSs a _ _ h)
  · exact jss_kl (okSs a _ _ h)
  · cases h
  termination_by t
theorem okS (a : AS C k fns cns N X sc W B) (t : T) (s : Stmt) (h : chkS N fns cns C.tds C.xcs sc t s = true) : PS X s (tS C X.K B W t) := by
  unfold chkS at h
  split at h
  · exact js_pass
  · exact js_brk
  · exact js_cnt
  · simp only [Bool.and_eq_true, beq_iff_eq] at h
    exact js_ex (okE a.ax _ _ h.1).j (comp_plain h.2)
  · exact js_ret (okE a.ax _ _ h).j
  · obtain ⟨h1, h2, h3, h4⟩ := a.ax.v h
    exact js_retv h1 h2 h3 h4
  · exact js_retn
  · simp only [Bool.and_eq_true] at h
    exact js_ifs (okE a.ax _ _ h.1.1).j (okSs a _ _ h.1.2) (okSs a _ _ h.2)
  · simp only [Bool.and_eq_true] at h
    exact js_wh a.sx (okE a.ax _ _ h.1).j (okSs a _ _ h.2)
  · simp only [Bool.and_eq_true] at h
    exact js_for a.sx (okI a.ax _ _ h.2 h.1.1.1.2) (okTt a.ax _ _ h.1.1.1.1) (okSs a _ _ h.1.1.2) (set_plain h.1.2)
  · rw [Bool.and_eq_true, Bool.and_eq_true] at h
    exact okAsg a h.1.1 h.1.2 h.2
  · rw [Bool.and_eq_true] at h
    exact okPar a h.1 h.2 (okP a.ax _ _ h.1)
  · simp only [Bool.and_eq_true, beq_iff_eq] at h
    obtain ⟨h1, h2, h3, h4⟩ := a.ax.v h.1.1.1
    exact js_setx h1 h2 h3 h4 (okE a.ax _ _ h.1.2).j (okE a.ax _ _ h.1.1.2).j h.2
  · simp only [Bool.and_eq_true, decide_eq_true_eq] at h
    obtain ⟨⟨h1, rfl⟩, h3⟩ := h
    obtain ⟨g1, g2, _⟩ := a.ax.l h1
    exact js_aug a.sx g1 g2 (okE a.ax _ _ h3).j
  · simp only [Bool.and_eq_true, beq_iff_eq, decide_eq_true_eq] at h
    obtain ⟨⟨⟨⟨h1, rfl⟩, h3⟩, h4⟩, h5⟩ := h
    obtain ⟨g1, g2, g3, g4⟩ := a.ax.v h1
    exact js_augx g1 g2 g3 g4 (okE a.ax _ _ h4).j (okE a.ax _ _ h3).j h5
  · simp only [Bool.and_eq_true, decide_eq_true_eq] at h
    obtain ⟨⟨⟨⟨rfl, h1⟩, h2⟩, h3⟩, h4⟩ := h
    obtain ⟨g1, g2, g3, g4⟩ := a.ax.v h1
    exact js_app g1 g2 g3 g4 (okE a.ax _ _ h2).j (beq_iff_eq.mp h3) h4
  · simp only [Bool.and_eq_true, decide_eq_true_eq] at h
    obtain ⟨⟨⟨⟨rfl, h1⟩, h2⟩, h3⟩, h4⟩ := h
    obtain ⟨g1, g2, g3, g4⟩ := a.ax.v h1
    exact js_ext g1 g2 g3 g4 (okE a.ax _ _ h2).j (beq_iff_eq.mp h3) h4
  · simp only [Bool.and_eq_true, decide_eq_true_eq] at h
    obtain ⟨⟨⟨⟨⟨h1, h2⟩, h3⟩, h4⟩, h5⟩, h6⟩ := h
    exact js_raise a.sx h1 (a.ax.g h2).1 (okA a.ax _ _ h3) h4 h5 h6
  · simp only [Bool.and_eq_true, decide_eq_true_eq] at h
    obtain ⟨⟨h1, h2⟩, h3⟩ := h
    obtain ⟨g1, g2, g3, g4⟩ := a.ax.v h1
    exact js_srcS a.sx.hx g1 g2 g3 g4 h2 (okE a.ax _ _ h3).j
  · simp only [Bool.and_eq_true, decide_eq_true_eq] at h
    obtain ⟨⟨⟨⟨⟨h1, rfl⟩, rfl⟩, rfl⟩, rfl⟩, h4⟩ := h
    obtain ⟨g1, g2, g3, g4⟩ := a.ax.v h1
    exact js_srcP a.sx.hx g1 g2 g3 g4 h4
  · simp only [Bool.and_eq_true, decide_eq_true_eq] at h
    obtain ⟨⟨rfl, h1⟩, h4⟩ := h
    obtain ⟨g1, g2, g3, g4⟩ := a.ax.v h1
    exact js_popS g1 g2 g3 g4 h4
  · cases h
  termination_by t
end
end
end Tre
set_option maxHeartbeats 2000000
/-! Tre14: a program's defs keep their promises. -/
namespace Tre
open PySem PySem.Spec PyProof.Rows L2

section
variable {K : PySem.W.Frag} {S : SA} {O : Addr → Prop} {H : Hp}
theorem AR.len : ∀ {vs : List V} {xs : List Arg}, AR K S O H vs xs → vs.length = xs.length
  | [], [], _ => rfl
  | v :: vs, .d x :: xs, h => by rw [List.length_cons, List.length_cons, AR.len h.2]
  | v :: vs, .src :: xs, h => by rw [List.length_cons, List.length_cons, AR.len h.2]
theorem AR.get : ∀ {xs : List Arg} {vs : List V} {i : Nat} {x : Arg}, AR K S O H vs xs → xs[i]? = some x → ∃ v, vs[i]? = some v ∧ match x with
    | .d d => Rp K (hide H O) v d
    | .src => v = .ref S.a1
  | [], _, _, _, _, e => by simp at e
  | .d x :: xs, [], _, _, h, _ => h.elim
  | .src :: xs, [], _, _, h, _ => h.elim
  | .d x :: xs, v :: vs, 0, y, h, e => by cases e; exact ⟨v, rfl, h.1⟩
  | .src :: xs, v :: vs, 0, y, h, e => by cases e; exact ⟨v, rfl, h.1⟩
  | .d x :: xs, v :: vs, i + 1, y, h, e => by
    obtain ⟨u, h1, h2⟩ := AR.get (i := i) (xs := xs) (vs := vs) h.2 (by simpa using e)
    exact ⟨u, by simpa using h1, h2⟩
  | .src :: xs, v :: vs, i + 1, y, h, e => by
    obtain ⟨u, h1, h2⟩ := AR.get (i := i) (xs := xs) (vs := vs) h.2 (by simpa using e)
    exact ⟨u, by simpa using h1, h2⟩
theorem startE_get {n : Nat} {xs : List Arg} {i : Nat} {x : Slot} (h : (startE n xs)[i]? = some x) : x = .e ∨ ∃ y, xs[i]? = some y ∧ x = y.slot := by
  unfold startE at h
  by_cases hi : i < xs.length
  · rw [List.getElem?_append_left (by rw [List.length_map]; exact hi), List.getElem?_map] at h
    obtain ⟨y, e1, e2⟩ := Option.map_eq_some_iff.mp h
    exact .inr ⟨y, e1, e2.symm⟩
  · rw [List.getElem?_append_right (by rw [List.length_map]; omega)] at h
    left
    exact (List.mem_replicate.mp (List.mem_of_getElem? h)).2
theorem rl_start {N : List Str} {n : Nat} {vs : List V} {xs : List Arg} (o1 : ∀ b, S.Out b → O b) (hO : ∀ a, O a → H a ≠ none) (ar : AR K S O H vs xs) (hn : N.length = n) (hl : xs.length ≤ n) :
    Rl K S O H O (startE n xs) (L2.start N vs) H where
  len := by
    have := ar.len
    unfold startE L2.start
    rw [List.length_append, List.length_map, List.length_replicate, List.length_append, List.length_map, List.length_replicate]
    omega
  so := o1
  sub := fun _ h => h
  dom := hO
  dom0 := hO
  same := Ex.refl _ _
  slots := fun i x o h1 h2 => by
    rcases startE_get h1 with rfl | ⟨y, e, rfl⟩
    · trivial
    · obtain ⟨v, e2, e3⟩ := ar.get e
      have hi : i < vs.length := (List.getElem?_eq_some_iff.mp e2).1
      unfold L2.start at h2
      rw [List.getElem?_append_left (by rw [List.length_map]; exact hi), List.getElem?_map, e2] at h2
      cases h2
      cases y with
      | d d => exact ⟨v, rfl, e3⟩
      | src => exact congrArg some e3
  inj := fun i j d d' a h1 _ _ _ => by
    rcases startE_get h1 with h | ⟨y, e, h⟩
    · cases h
    · cases y <;> cases h
end

/-- what is told of a def -/
def DefOk (P : List Fn) (fns cns : List Str) (xcs : List (Str × Nat)) (ts : List (Addr × Str)) (Xn : XT) (prog : Program) (w : World) (K : PySem.W.Frag) (mg : Str → Option Value) (base : Heap) (f : Nat) (a : Addr) (fd : FuncData) (ps : List Str) : Prop := match P[f]? with
  | none => True
  | some (.prim g) => ∀ k, FnG prog w K mg base (L2.CX prog w) (k + 4) a fd ps (spF ts Xn K g)
  | some (.body ar n b) => ∃ (x qual : Str) (params : Arguments) (body : List Stmt) (scope : Scope) (N : List Str),
      FunD K x qual params body scope [] [] a fd ∧ FnScope N ps scope ∧ N.length = n ∧ ps.length = ar ∧ ar ≤ n ∧ chkSs N fns cns [] xcs scope b body = true
structure ProgOk (P : List Fn) (G : Nat → Option D) (fns cns : List Str) (xcs : List (Str × Nat)) (ts : List (Addr × Str)) (Xn : XT) (prog : Program) (w : World) (K : PySem.W.Frag) (mg : Str → Option Value) (base : Heap) : Prop where
  blt : ∀ x ∈ bltNames, mg x = none
  cn : ∀ (i : Nat) (x : Str) (d : D), cns[i]? = some x → G i = some d → ∃ u v, mg x = some u ∧ RelV v u ∧ Rp K (fun _ => none) v d
  fn : ∀ (f : Nat) (x : Str), fns[f]? = some x → ∃ (a : Addr) (fd : FuncData) (ps : List Str), mg x = some (.ref a) ∧ PySem.W.keepIn K (.ref a) = true ∧ Binds K fd ps [] ∧ DefOk P fns cns xcs ts Xn prog w K mg base f a fd ps
  xc : ∀ (c : Nat) (x : Str) (ar : Nat), xcs[c]? = some (x, ar) → ∀ (Φ : Nat → List Arg → Src → R (Bool × D)) (X : Cx) (W : WX), X.prog = prog → X.w = w → X.K = K → X.mg = mg → X.base = base → X.calm = true → Room 3 X.A → Takes X W → XcOk ⟨Φ, G, Xn, xcs, ts, []⟩ X c x ar

section
variable {P : List Fn} {G : Nat → Option D} {fns cns : List Str} {xcs : List (Str × Nat)} {ts : List (Addr × Str)} {Xn : XT} {prog : Program} {w : World} {K : PySem.W.Frag} {mg : Str → Option Value} {base : Heap}
theorem spF_stuck {vs : List V} {H : Hp} {Q : VK} {E : XK} {F : List Arg → Src → R (Bool × D)} (hF : ∀ xs s, F xs s = .stuck) (h : spF ts Xn K F vs H Q E) : False := by
  obtain ⟨S, O, xs, s, _, _, _, _, _, hq⟩ := h
  rw [hF] at hq
  exact hq
theorem fnG_stuck {k : Nat} {a : Addr} {fd : FuncData} {ps : List Str} {F : List Arg → Src → R (Bool × D)} (hF : ∀ xs s, F xs s = .stuck) : FnG prog w K mg base (L2.CX prog w) k a fd ps (spF ts Xn K F) :=
  ⟨fun _ _ _ _ h => (spF_stuck hF h).elim, fun _ _ _ _ _ _ _ _ _ _ _ _ _ _ h => (spF_stuck hF h).elim⟩
/-- A DEF BY ITS TREE -/
theorem body_ok {k ar n : Nat} {b : T} {a : Addr} {fd : FuncData} {ps : List Str} {x qual : Str} {params : Arguments} {body : List Stmt} {scope : Scope} {N : List Str} (F : FunD K x qual params body scope [] [] a fd) (fs : FnScope N ps scope) (hn : N.length = n) (hp : ps.length = ar) (hle : ar ≤ n)
    (hc : chkSs N fns cns [] xcs scope b body = true) (blt : ∀ x ∈ bltNames, mg x = none)
    (cn : ∀ (i : Nat) (x : Str) (d : D), cns[i]? = some x → G i = some d → ∃ u v, mg x = some u ∧ RelV v u ∧ Rp K (fun _ => none) v d) {Φ : Nat → List Arg → Src → R (Bool × D)} (hk : 3 ≤ k)
    (xc : ∀ (c : Nat) (x : Str) (ar : Nat), xcs[c]? = some (x, ar) → ∀ (Φ : Nat → List Arg → Src → R (Bool × D)) (X : Cx) (W : WX), X.prog = prog → X.w = w → X.K = K → X.mg = mg → X.base = base → X.calm = true → Room 3 X.A → Takes X W → XcOk ⟨Φ, G, Xn, xcs, ts, []⟩ X c x ar)
    (fn : ∀ (f : Nat) (x : Str), fns[f]? = some x → ∃ (a : Addr) (fd : FuncData) (ps : List Str), mg x = some (.ref a) ∧ PySem.W.keepIn K (.ref a) = true ∧ Binds K fd ps [] ∧ FnG prog w K mg base (L2.CX prog w) k a fd ps (spF ts Xn K (Φ f))) :
    FnG prog w K mg base (L2.CX prog w) (k + 1) a fd ps (spF ts Xn K fun xs s => Fn.run Φ G xs s (.body ar n b)) := by
  obtain ⟨oc, od, dV, kV, doc, pm, an, cdv, ct, osl, rfl, lk, hcd, _, _⟩ := F.ex
  refine fnG_of lk hcd fs (fun vs H Q E h => ?_) fun A outer s H vs Q E hA hr h => ?_
  · obtain ⟨S, O, xs, s, _, _, _, _, ar', hq⟩ := h
    have hq : RQ (if xs.length = ar then endF (evS Φ G b (startE n xs) s) else .stuck) _ _ := hq
    by_cases hx : xs.length = ar
    · rw [ar'.len, hx, hp]
    · rw [if_neg hx] at hq; exact hq.elim
  · obtain ⟨S, O, xs, s0, hts, o1, hO, q, ar', hq⟩ := h
    have hq : RQ (if xs.length = ar then endF (evS Φ G b (startE n xs) s0) else .stuck) _ _ := hq
    by_cases hx : xs.length = ar
    case neg => rw [if_neg hx] at hq; exact hq.elim
    rw [if_pos hx] at hq
    have sx : SX ⟨Φ, G, Xn, xcs, ts, []⟩ k fns cns (cxOf (L2.CX prog w) prog w K mg base N qual scope a cdv A outer s H E) (fun cls d _ H => E cls d H) :=
      ⟨⟨fs.nd, rfl, hA, hr, blt, fn, cn⟩, takes_of rfl rfl rfl rfl, passes_of rfl, fun _ => rfl, fs.kind, fun c x ar h => xc c x ar h Φ _ _ rfl rfl rfl rfl rfl rfl (hr.mono hk) (takes_of rfl rfl rfl rfl)⟩
    refine ⟨tS ⟨Φ, G, Xn, xcs, ts, []⟩ K ⟨S, O, H⟩ (fun cls d _ H => E cls d H) b, okSs (B := ⟨S, O, H⟩) ⟨hts, fun _ _ _ _ z => absurd z (by simp), sx, rfl, rfl⟩ b body hc, startE n xs, s0, O, rl_start o1 hO ar' hn (by omega), q, ?_⟩
    have hq : RQ ((evS Φ G b (startE n xs) s0).bind _) _ _ := hq
    refine hq.bind.mono (fun fl s1 h1 => ?_) fun c a' s1 z => ?_
    · cases fl with
      | next env' => exact fun σ' H' O' r' q' m' => h1 .non H' r'.same q' Rp.non
      | ret o d => exact h1
      | brk env' => exact h1.elim
      | cnt env' => exact h1.elim
    · exact fun σ' H' cls d e q' x => z H' cls d e q' x
/-- ALL DEFS, to the depth k -/
theorem prog_ok (p : ProgOk P G fns cns xcs ts Xn prog w K mg base) : ∀ (k f : Nat) (x : Str), fns[f]? = some x → ∃ (a : Addr) (fd : FuncData) (ps : List Str), mg x = some (.ref a) ∧ PySem.W.keepIn K (.ref a) = true ∧ Binds K fd ps [] ∧
    FnG prog w K mg base (L2.CX prog w) (k + 3) a fd ps (spF ts Xn K (Phi P G k f))
  | 0, f, x, h => by
    obtain ⟨a, fd, ps, h1, h2, h3, _⟩ := p.fn f x h
    exact ⟨a, fd, ps, h1, h2, h3, fnG_stuck fun xs s => rfl⟩
  | k + 1, f, x, h => by
    obtain ⟨a, fd, ps, h1, h2, h3, h4⟩ := p.fn f x h
    refine ⟨a, fd, ps, h1, h2, h3, ?_⟩
    unfold DefOk at h4
    cases e : P[f]? with
    | none => exact fnG_stuck fun xs s => by unfold Phi; rw [e]
    | some fn =>
      have hF : Phi P G (k + 1) f = fun xs s => Fn.run (Phi P G k) G xs s fn := by
        funext xs s
        conv => lhs; unfold Phi
        rw [e]
      rw [hF]
      rw [e] at h4
      cases fn with
      | prim g => exact h4 k
      | body ar n b =>
        obtain ⟨x', qual, params, body, scope, N, F, fs, hn, hp, hle, hc⟩ := h4
        exact body_ok F fs hn hp hle hc p.blt p.cn (Nat.le_add_left 3 k) p.xc (prog_ok p k)
end
end Tre
set_option maxHeartbeats 2000000
/-! TreE: own exceptions whose __init__ says super().__init__(..). -/
namespace Tre
open PySem PySem.Spec PyProof.Rows L2 NdefX

/-- what the written part says of a class's __init__ that names __class__ -/
structure SupK (K : PySem.W.Frag) (P : Program) (C f : Addr) (F : NF) (cc : Addr) (slf : Str) (ps : List Str) : Prop where
  lk : ∃ (oc : Value) (od : Option Addr) (doc pm ct : Value) (osl : Array (Option Value)), K.lookup f = some ⟨oc, od, .func (F.fd doc pm ct), osl⟩
  cl : F.cl = [(("__class__" : Str), cc)]
  code : PySem.W.codeIn K (.ref F.c) F.qual = true
  file : ∃ (ccl : Value) (cdd : Option Addr) (vs : Array Value) (ccs : Array (Option Value)) (file : Str) (tf : Tok), K.lookup F.c = some ⟨ccl, cdd, .fields vs, ccs⟩ ∧ vs[2]? = some (.str file tf) ∧ ((P.main.file : Str) == file) = true
  cell : ∃ (cl : Value) (cld : Option Addr) (csl : Array (Option Value)), K.lookup cc = some ⟨cl, cld, .cell (some (.ref C)), csl⟩
  oex : OexC K C
  along : PySem.W.ks_superIn K C C "__init__" = some (some (.builtin "ValueError.__init__"))
  sub : PySem.W.subIn K (.ref C) (.type "ValueError") = some true
  mro : PySem.W.mroIn K C (.ref C) = some true
  opq : PySem.W.nsIn K PySem.cStatics "thirdparty.any" = some none
  top : (P.main.scope.names.lookup ("super" : Str)).isSome = false
  sup : PySem.W.nsIn K mainGlobals "super" = some none
  first : ∃ ar : PySem.Arg, (F.params.posonlyargs ++ F.params.args).head? = some ar ∧ ar.arg = slf
  head : ∃ r, ps = slf :: r
  sk : F.scope.names.lookup ("super" : Str) = some .globalImplicit

section
variable {P : Program} {w : World} {K : PySem.W.Frag} {mg : Str → Option Value} {base : Heap} {C f cc : Addr} {F : NF} {slf : Str} {N ps : List Str} {k : Nat}
theorem excObj_of {P : Program} {w : World} {C : Addr} {H : Hp} {h : Heap} {a : Addr} (hok : HOk P w H h) (e : H a = some (exo a C none)) : ∃ t1 : Addr, h.get? a = some (PySem.W.excObj C t1 none .none) := exo_at hok e
/-- ValueError.__init__, bound, called -/
theorem mw_call {X : Cx} {A : Around} {E : Value → Shared → Prop} {pins : List (Addr × Obj)} {σ : L2.St} {H : Hp} {s : Shared} {u a C : Addr} {us : List Value} {Q : Value → Shared → Prop} (T : OexC X.K C) (I : Inv X pins σ H s) (hu : s.heap.get? u = some (PySem.W.kxs_mw "ValueError.__init__" a)) (e : H a = some (exo a C none)) (hl : us.length ≤ sizeLine)
    (h : ∀ s', Inv X pins σ H s' → Q .none s') : wpAny (model X.prog X.w) A (call (.ref u) us) Q E s := by
  obtain ⟨nm, q, N, bs, bm, sn, sub, ab, col, dd, k0, k1, k2, k3, k5, hC, hbm⟩ := T.cls
  obtain ⟨t1, ho⟩ := exo_at I.hok e
  obtain ⟨hp, g, d, t, os⟩ := s
  refine wpAny_call (codeAny_of_tree ?_)
  show wpAny _ A.in1 (callAny (.ref u) ⟨us, []⟩) _ _ _
  simp only [callAny]
  refine wpAny_bind (wpAny_load hu ?_)
  simp only [PySem.W.kxs_mw, show (Value.type "method-wrapper" == Value.type "method" || Value.type "method-wrapper" == Value.type "builtin_function_or_method" || Value.type "method-wrapper" == Value.type "method-wrapper") = true by decide, if_true]
  refine PySem.W.KFB.if_so (by decide) ?_
  refine wpAny_bind (PySem.W.check_bound_init F.excBase_ValueError.toExcCallFacts (I.kIn _ _ hC) ho rfl ?_)
  refine wpAny_bind (wpAny_pure (wpAny_pure ?_))
  refine ⟨plainId_quiet F.excBase_ValueError.init.plain _, codeAny_builtin F.excBase_ValueError.initEntry ?_⟩
  refine PySem.W.exc_init_tree (cls := .ref C) (t0 := t1) (dv := none) (c2 := .none) (c3 := .none) (b4 := .bool false) ho hl fun h' k hx ht => ?_
  have J := I.write (t' := t) (x := a) (e := a) (o := exo a C none) (by rw [e]; exact True.intro) (.inl rfl) k ⟨_, hx⟩ (exo_ok hx)
  have eu : upd H a (exo a C none) = H := by
    funext b
    by_cases hb : b = a
    · rw [hb, upd_same, e]
    · rw [upd_ne hb]
  rw [eu] at J
  exact h _ J
/-- THE RULE -/
theorem init_ok {es : List Expr} {e : Expr} {rest : List Stmt} {p0 p1 p2 p3 p4 : Pos} {ta : TA} {tr : TS} (T : SupK K P C f F cc slf ps) (S : NScope N ps ["__class__"] F.scope)
    (hbody : F.body = .Expr (.Call (.Attribute (.Call (.Name "super" p0) [] [] p1) "__init__" p2) (e :: es) [] p3) p4 :: rest)
    (he : ∀ env, starEach (e :: es) env = (false, eval e env) :: starEach es env) (hpl : ∀ env, (backTo p3 (starEach es env)).any (·.1) = false)
    (ha : ∀ (A : Around) (outer : List PySem.Env) (s : Shared) (H : Hp) (E : XK), PA (ncx (L2.CX P w) P w K mg base N F f A outer s H E) (e :: es) ta)
    (hr' : ∀ (A : Around) (outer : List PySem.Env) (s : Shared) (H : Hp) (E : XK), PSs (ncx (L2.CX P w) P w K mg base N F f A outer s H E) rest tr)
    (pl : Addr → Sem Bool) (hcall : ∀ L, eval (.Call (.Attribute (.Call (.Name "super" p0) [] [] p1) "__init__" p2) (e :: es) [] p3) (envF F f L) = (do
      let ov ← attributeBase (.Call (.Name "super" p0) [] [] p1) "__init__" (envF F f L) (eval (.Call (.Name "super" p0) [] [] p1) (envF F f L))
      standAt p2.atName
      let (g, first) ← holding [ov] (getMethod ov "__init__" (pl L))
      callWith p3 g first (backTo p3 (starEach (e :: es) (envF F f L))) []))
    {doc pm ct : Value} {oc : Value} {od : Option Addr} {osl : Array (Option Value)} (lk : K.lookup f = some ⟨oc, od, .func (F.fd doc pm ct), osl⟩) :
    FnOk P w K mg base (L2.CX P w) (k + 1) f (F.fd doc pm ct) ps (fun vs H Q _ => ∃ a r, vs.length = ps.length ∧ vs = .ref a :: r ∧ H a = some (exo a C none) ∧
      ta (startF N vs [some (.ref C)]) H fun us H1 => us.length ≤ 1000 ∧ H1 a = some (exo a C none) ∧ tr { nx := fun _ H' => Q .non H', rt := Q } (startF N vs [some (.ref C)]) H1) := by
  refine ⟨fun vs H Q E h => h.choose_spec.choose_spec.1, fun A outer s H args us vs Q E hr e0 hb r hsp => ?_⟩
  obtain ⟨a, rw0, hl, hvs, ea, hsp⟩ := hsp
  subst hvs
  have kin : K.In s.heap := e0.mod.kin.keeps fun b o e => (e0.bs b o e).1
  have lim : s.heap.NoLimit := e0.mod.nolimit.keeps fun b o e => (e0.bs b o e).1
  obtain ⟨cl, cld, csl, hcell⟩ := T.cell
  obtain ⟨ccl, cdd, cvs, ccs, file, tf, hcode, hvs2, hfile⟩ := T.file
  obtain ⟨ar, har, hself⟩ := T.first
  obtain ⟨psr, hps⟩ := T.head
  have hcc : CellsAt F.cl ["__class__"] [some (V.ref C)] s.heap H := by
    rw [T.cl]
    have hc0 : H cc = none := by
      have := (e0.bs cc _ (e0.mod.kin _ _ hcell)).2
      exact this
    refine ⟨rfl, fun y c hy => ?_, fun x y c hx hy => ?_, fun i y hi => ?_⟩
    · rw [List.lookup_cons] at hy
      split at hy
      · cases hy; exact ⟨hc0, _, _, kin _ _ hcell, rfl⟩
      · cases hy
    · rw [List.lookup_cons] at hx hy
      split at hx
      · split at hy
        · rename_i h1 _ h2
          rw [beq_iff_eq] at h1 h2
          rw [h1, h2]
        · cases hy
      · cases hx
    · cases i with
      | zero =>
        cases hi
        refine ⟨cc, by simp, fun v hv => ?_⟩
        cases hv
        exact ⟨.ref C, rfl, _, kin _ _ hcell, rfl⟩
      | succ i => simp at hi
  have hkc : F.scope.names.lookup ("__class__" : Str) = some .free := S.frk _ (by simp)
  have hka : F.scope.names.lookup slf = some .local := S.par _ (by rw [hps]; exact List.mem_cons_self)
  refine PySem.ks_codeAny_call_defAt hr.depth (kin _ _ lk) rfl lim (PySem.W.codeRec_of kin T.code) (body := F.body) rfl hb S.nocell (fun ⟨n, _⟩ hy => S.par n (List.of_mem_zip hy).1) (fun h₀ hns kp => ?_) S.co S.gen S.kind
  show PySem.wpAt _ (A.deeper (envF F f s.heap.objs.size)) (.func F.body (envF F f s.heap.objs.size)) (execs F.body (envF F f s.heap.objs.size)) _ _ _
  have I0 : Inv (ncx (L2.CX P w) P w K mg base N F f A outer s H E) [] (startF N (.ref a :: rw0) [some (.ref C)]) H { s with heap := h₀, toks := s.toks + (ps.zip us).length } := inv_startN S hr.hd e0 hl r hcc hns kp
  have hAe : (ncx (L2.CX P w) P w K mg base N F f A outer s H E).A = A.deeper (envF F f s.heap.objs.size) := rfl
  have haP := ha A outer s H E
  have hrP := hr' A outer s H E
  have kinX : K.In h₀ := kin.keeps kp
  -- what the body's rest leaves
  have fin : ∀ {s' : Shared} {u : Value} {v : V} {σ' : L2.St} {H' : Hp}, Inv (ncx (L2.CX P w) P w K mg base N F f A outer s H E) [] σ' H' s' → L2.RelV v u → Q v H' → CR (L2.CX P w) outer P w H s Q E (.ok (.ret u)) s' :=
    fun J rv q => ⟨_, _, J.os, J.bare, J.base, J.hok, rv, q⟩
  obtain ⟨t1, ho⟩ := excObj_of (C := C) I0.hok ea
  obtain ⟨nm, q, N', bs, bm, sn, sub, ab, col, dd, k0, k1, k2, k3, k5, hC, hbm⟩ := T.oex.cls
  cases hcls : PySem.W.clsIn K C with
  | none =>
    have h := T.along
    unfold PySem.W.ks_superIn at h; rw [hcls] at h; cases h
  | some cd =>
  have hal := T.along
  unfold PySem.W.ks_superIn at hal
  rw [hcls] at hal
  have hCo : ∃ oD, h₀.get? C = some oD ∧ oD.data = .cls cd := by
    unfold PySem.W.clsIn at hcls
    split at hcls
    · rename_i hcl
      cases hcls
      exact ⟨_, kinX _ _ hcl, rfl⟩
    · cases hcls
  obtain ⟨oD, hD1, hD2⟩ := hCo
  have hxC : a ≠ C := fun z => by
    have h1 := (e0.bs C _ (e0.mod.kin _ _ hC)).2
    rw [← z, ea] at h1
    cases h1
  rw [hbody]
  refine PySem.ks_wpAt_execs_cons ?_
  have hint : interactive (envF F f s.heap.objs.size) = false := by
    show (F.scope.kind == .module && _) = false
    rw [S.kind]; rfl
  refine PySem.ks_wpAt_Expr_any (PySem.ks_wpAt_MethodCall (pl := pl s.heap.objs.size) ?_ (hcall _)) hint rfl
  refine PySem.ks_wpAt_super_base (env := envF F f s.heap.objs.size) T.sk hkc (by decide) rfl (kinX _ _ lk) rfl har rfl (kinX _ _ hcode) rfl hvs2 hfile T.top ?_
  have boot : bootBuiltins ("super" : Str) = some (.type "super") := by decide +kernel
  refine PySem.W.ks_loadName_global (env := envF F f s.heap.objs.size) S.kind T.sk ?_
  obtain ⟨mb, hmb, hmb2⟩ := e0.mod.blt
  have bsk : ∀ b o, base.get? b = some o → h₀.get? b = some o := fun b o e => kp _ _ (e0.bs b o e).1
  refine PySem.Calls.loadGlobal_builtin (env := envF F f s.heap.objs.size) (e0.mod.glob.keeps bsk) (PySem.W.mg_none_of e0.mod.kin e0.mod.glob T.sup) (hmb.keeps bsk) ((hmb2 _ (by decide)).trans boot) ⟨rfl, ?_⟩
  have hcl : (envF F f s.heap.objs.size).cells.lookup ("__class__" : Str) = some cc := by
    show F.cl.lookup _ = _
    rw [T.cl]
    rfl
  refine wpAny_loadName_free (env := envF F f s.heap.objs.size) S.kind hkc hcl ⟨_, kinX _ _ hcell, rfl⟩ ?_
  rw [hself]
  have hu0 : us[0]? = some (Value.ref a) := by
    cases r with
    | cons r1 r2 =>
      obtain rfl := (show _ = Value.ref a from r1)
      rfl
  have ndP : ps.Nodup := by
    have q := S.nd.sublist (List.take_sublist (ps.length + 1) N)
    have e1 : N.take (ps.length + 1) = ps ++ [("__class__" : Str)] := S.pre
    rw [e1] at q
    exact (List.nodup_append.mp q).1
  refine wpAny_loadName_local (env := envF F f s.heap.objs.size) S.kind hka hns (zip_look ndP (i := 0) (by rw [hps]; rfl) hu0) ?_
  refine PySem.ks_wpAny_isType_cls hD1 hD2 ⟨rfl, ?_⟩
  refine PySem.ks_wpAny_call_super hD1 hD2 ho rfl (fun c z => by cases z) (PySem.W.looks_mroIn kinX T.mro) (fun h1 hso k1 => ?_)
  have k01 : ∀ b o, h₀.get? b = some o → h1.get? b = some o := k1
  have kin1 : K.In h1 := kinX.keeps k01
  have I1 : Inv (ncx (L2.CX P w) P w K mg base N F f A outer s H E) [] (startF N (.ref a :: rw0) [some (.ref C)]) H { s with heap := h1, toks := s.toks + (ps.zip us).length } := I0.kept (t' := s.toks + (ps.zip us).length) k01
  have hin : PySem.W.Looks (model P w) h1 (isInstance (.ref a) (.type "ValueError")) true :=
    (PySem.W.InstAt.type (C := C) (od := none) ⟨k01 _ _ ho, rfl, rfl, trivial⟩).andThen (PySem.W.looks_subIn kin1 T.sub)
  refine PySem.W.kxs_getMethod PySem.W.kxs_ValueError hso (PySem.W.looks_opaque kin1 T.opq) (l₀ := cd.mro) (fun A Q E s k q => wpAny_bind ((PySem.W.looks_clsIn kin1 hcls) A _ E s k (wpAny_pure q))) rfl kin1 hal hin hxC (by decide) ?_
  let u := h1.objs.size
  have hu : (h1.push (PySem.W.kxs_mw "ValueError.__init__" a)).get? u = some (PySem.W.kxs_mw "ValueError.__init__" a) := Heap.get?_push_at rfl rfl
  have I2 : Inv (ncx (L2.CX P w) P w K mg base N F f A outer s H E) [] (startF N (.ref a :: rw0) [some (.ref C)]) H { s with heap := h1.push (PySem.W.kxs_mw "ValueError.__init__" a), toks := s.toks + (ps.zip us).length + 1 } :=
    I1.kept (t' := s.toks + (ps.zip us).length + 1) fun b o e => Heap.get?_push_of_some _ e
  have fp := I1.fpOk (Nat.le_refl h1.objs.size) (I1.hok.fresh (Nat.le_refl _))
  have I3 : Inv (ncx (L2.CX P w) P w K mg base N F f A outer s H E) [(u, PySem.W.kxs_mw "ValueError.__init__" a)] (startF N (.ref a :: rw0) [some (.ref C)]) H { s with heap := h1.push (PySem.W.kxs_mw "ValueError.__init__" a), toks := s.toks + (ps.zip us).length + 1 } :=
    I2.pins_of fun p hp => by
      obtain rfl : p = (u, PySem.W.kxs_mw "ValueError.__init__" a) := by simpa using hp
      exact ⟨hu, fp.1, fp.2.1, fp.2.2.1, fun v z => by cases z⟩
  have hst : starEach (e :: es) (envF F f s.heap.objs.size) = (false, eval e (envF F f s.heap.objs.size)) :: starEach es (envF F f s.heap.objs.size) := he _
  refine PySem.W.kxs_callWith (i := "ValueError.__init__") (x := a) (by rw [hst]; show (false || (backTo p3 (starEach es _)).any (·.1)) = false; rw [hpl]; rfl) ?_
  have conv : ∀ (Q : Args → Shared → Prop) (E' : Value → Shared → Prop) (s' : Shared), wpAny (model P w) (A.deeper (envF F f s.heap.objs.size)) (spliced (backTo p3 (starEach (e :: es) (envF F f s.heap.objs.size)))) (fun vs s'' => Q ⟨vs, []⟩ s'') E' s' →
      wpAny (model P w) (A.deeper (envF F f s.heap.objs.size)) (evalArgs (.ref u) true (backTo p3 (starEach (e :: es) (envF F f s.heap.objs.size))) []) Q E' s' := fun Q E' s' h => by
    rw [hst] at h ⊢
    exact PySem.Calls.evalArgs_plain h
  refine conv _ _ _ ?_
  refine wpAny_mono (haP.run p3 [(u, PySem.W.kxs_mw "ValueError.__init__" a)] _ _ _ _ I3 hsp) (fun vs' s3 h3 => ?_) fun _ _ z => z
  obtain ⟨ws, H3, I4, r4, hz, ea3, hq⟩ := h3
  have hu3 : s3.heap.get? u = some (PySem.W.kxs_mw "ValueError.__init__" a) := (I4.pin (u, PySem.W.kxs_mw "ValueError.__init__" a) (by simp)).1
  refine ⟨hu3, ?_⟩
  have hlen : vs'.length ≤ sizeLine := by
    rw [← r4.length, sizeLine_eq]; omega
  refine mw_call T.oex I4 hu3 ea3 hlen fun s5 I5 => ?_
  have I6 : Inv (ncx (L2.CX P w) P w K mg base N F f A outer s H E) [] (startF N (.ref a :: rw0) [some (.ref C)]) H3 s5 := I5.pins_of fun p hp => absurd hp (by simp)
  refine PySem.wpAt_of_wpAny (wpAny_mono (hrP.run [] s5 _ _ _ I6 hq) (fun fl s6 hs => ?_) fun e s6 hs => hs)
  cases fl with
  | ret u =>
    obtain ⟨v, σ', H', J, rv, q⟩ := hs
    exact fin J rv q
  | next =>
    obtain ⟨σ', H', J, q⟩ := hs
    exact fin (v := V.non) J rfl q
  | brk =>
    obtain ⟨_, _, _, q⟩ := hs
    exact q.elim
  | cont =>
    obtain ⟨_, _, _, q⟩ := hs
    exact q.elim
end
end Tre
set_option maxHeartbeats 2000000
/-! TreF: an own exception's values under its fields. -/
namespace Tre
open PySem PySem.Spec PyProof.Rows L2 NdefX

/-- self.f = p, one behind another -/
def bStores (N : List Str) (slf : Str) : List Stmt → List (Str × Nat) → Bool
  | [], [] => true
  | .Assign [.Attribute (.Name s _) f _] (.Name p _) _ :: r, (g, i) :: l => decide (s = slf) && decide (f = g) && decide (N[i]? = some p) && (p == ("__debug__" : Str)) == false && (p == ("__classdict__" : Str)) == false && bStores N slf r l
  | _, _ => false
def bArgs (N : List Str) : List Expr → List Nat → Bool
  | [], [] => true
  | .Name p _ :: r, i :: l => decide (N[i]? = some p) && (p == ("__debug__" : Str)) == false && (p == ("__classdict__" : Str)) == false && bArgs N r l
  | _, _ => false
def tChain (K : PySem.W.Frag) : List (Str × Nat) → TS
  | [] => fun D σ H => D.nx σ H
  | (f, i) :: l => fun D σ H => tOst K f (tVar 0) (tVar i) { D with nx := fun σ' H' => tChain K l D σ' H' } σ H
def tVars : List Nat → TA
  | [] => tNil
  | i :: l => tCons (tVar i) (tVars l)
section
variable {X : Cx} {slf : Str}
theorem pss_stores (h0 : X.N[0]? = some slf) (hvis : ∀ (i : Nat) (x : Str), X.N[i]? = some x → Vis X.env.scope x) (hd : (slf == ("__debug__" : Str)) = false) (hcd : (slf == ("__classdict__" : Str)) = false) : ∀ {ss : List Stmt} {l : List (Str × Nat)}, bStores X.N slf ss l = true → PSs X ss (tChain X.K l)
  | [], [], _ => pss_nil
  | .Assign [.Attribute (.Name s p1) f p2] (.Name p p3) p4 :: r, (g, i) :: l, h => by
    unfold bStores at h
    simp only [Bool.and_eq_true, decide_eq_true_eq, beq_iff_eq] at h
    obtain ⟨⟨⟨⟨⟨e1, rfl⟩, h3⟩, h4⟩, h5⟩, h6⟩ := h
    have e1 := e1.symm
    subst e1
    exact pss_cons (ps_ost (pe_var h0 (hvis _ _ h0) hd hcd) (pe_var h3 (hvis _ _ h3) h4 h5) rfl) (pss_stores h0 hvis hd hcd h6)
theorem pa_args (hvis : ∀ (i : Nat) (x : Str), X.N[i]? = some x → Vis X.env.scope x) : ∀ {es : List Expr} {l : List Nat}, bArgs X.N es l = true → PA X es (tVars l)
  | [], [], _ => pa_nil
  | .Name p pp :: r, i :: l, h => by
    unfold bArgs at h
    simp only [Bool.and_eq_true, decide_eq_true_eq, beq_iff_eq] at h
    obtain ⟨⟨⟨h3, h4⟩, h5⟩, h6⟩ := h
    exact pa_cons (pe_var h3 (hvis _ _ h3) h4 h5) (pa_args hvis h6)
end
/-- the arguments are there -/
theorem vars_ok {σ : L2.St} {H : Hp} : ∀ {l : List Nat} {Q : List V → Hp → Prop}, (∀ i ∈ l, ∃ v, σ[i]? = some (some v)) → (∀ us, us.length = l.length → Q us H) → tVars l σ H Q
  | [], Q, _, q => q [] rfl
  | i :: l, Q, h, q => by
    obtain ⟨v, e⟩ := h i List.mem_cons_self
    exact ⟨v, e, vars_ok (fun j hj => h j (List.mem_cons_of_mem _ hj)) fun us hl => q (v :: us) (by simp [hl])⟩
/-- behind the first store -/
theorem chain_ok {K : PySem.W.Frag} {C a d : Addr} {σ : L2.St} {H1 : Hp} {D : Ends} (T : OexC K C) (h0 : σ[0]? = some (some (.ref a))) : ∀ {l : List (Str × Nat)} {vs : List V} {H2 : Hp} {fs : List (Str × V)},
    (∀ (n : Nat) (p : Str × Nat), l[n]? = some p → ∃ v, vs[n]? = some v ∧ σ[p.2]? = some (some v)) → vs.length = l.length → (∀ p ∈ l, PySem.W.findIn K (.ref C) p.1 = some none) → fs.length + l.length ≤ 900 →
    a ≠ d → (∀ b, b ≠ a → b ≠ d → H2 b = H1 b) → H2 a = some (exo a C (some d)) → H2 d = some (exd d fs) →
    (∀ H', (∀ b, b ≠ a → b ≠ d → H' b = H1 b) → H' a = some (exo a C (some d)) → H' d = some (exd d (((l.map (·.1)).zip vs).reverse ++ fs)) → D.nx σ H') → tChain K l D σ H2
  | [], vs, H2, fs, _, hv, _, _, _, h1, h2, h3, q => q H2 h1 h2 (by simpa using h3)
  | (f, i) :: l, vs, H2, fs, hs, hv, hn, hz, had, h1, h2, h3, q => by
    obtain ⟨v, ev, es⟩ := hs 0 (f, i) rfl
    match vs, ev, hv with
    | v' :: vs, ev, hv =>
      obtain rfl : v' = v := by simpa using ev
      refine ⟨v', es, .ref a, h0, a, C, rfl, T, hn _ List.mem_cons_self, .inr ⟨d, fs, h2, h3, by simp at hz; omega, ?_⟩⟩
      refine chain_ok T h0 (vs := vs) (fs := (f, v') :: fs) (fun n p hp => ?_) (by simpa using hv) (fun p hp => hn p (List.mem_cons_of_mem _ hp)) (by simp at hz ⊢; omega) had (fun b n1 n2 => by rw [upd_ne n2]; exact h1 b n1 n2) (by rw [upd_ne had]; exact h2) upd_same fun H' q1 q2 q3 => q H' q1 q2 ?_
      · obtain ⟨u, e1, e2⟩ := hs (n + 1) p (by simpa using hp)
        exact ⟨u, by simpa using e1, e2⟩
      · rw [q3]
        simp
theorem chain_start {K : PySem.W.Frag} {C a : Addr} {σ : L2.St} {H1 : Hp} {D : Ends} (T : OexC K C) (h0 : σ[0]? = some (some (.ref a))) {l : List (Str × Nat)} {vs : List V}
    (hs : ∀ (n : Nat) (p : Str × Nat), l[n]? = some p → ∃ v, vs[n]? = some v ∧ σ[p.2]? = some (some v)) (hv : vs.length = l.length) (hn : ∀ p ∈ l, PySem.W.findIn K (.ref C) p.1 = some none) (hz : l.length ≤ 900) (hl : l ≠ []) (h1 : H1 a = none)
    (q : ∀ d H', H1 d = none → a ≠ d → (∀ b, b ≠ a → b ≠ d → H' b = H1 b) → H' a = some (exo a C (some d)) → H' d = some (exd d ((l.map (·.1)).zip vs).reverse) → D.nx σ H') : tChain K l D σ (upd H1 a (exo a C none)) := by
  match l, vs, hv, hl with
  | (f, i) :: l, v :: vs, hv, _ =>
    obtain ⟨v', ev, es⟩ := hs 0 (f, i) rfl
    obtain rfl : v = v' := by simpa using ev
    refine ⟨v, es, .ref a, h0, a, C, rfl, T, hn _ List.mem_cons_self, .inl ⟨upd_same, fun d hd hne => ?_⟩⟩
    rw [upd_ne hne] at hd
    refine chain_ok (d := d) (H1 := H1) T h0 (vs := vs) (fs := [(f, v)]) (fun n p hp => ?_) (by simpa using hv) (fun p hp => hn p (List.mem_cons_of_mem _ hp)) (by simp at hz ⊢; omega) (Ne.symm hne) (fun b n1 n2 => by rw [upd_ne n1, upd_ne n2, upd_ne n1]) upd_same (by rw [upd_ne hne, upd_same]) fun H' q1 q2 q3 => q d H' hd (Ne.symm hne) q1 q2 ?_
    · obtain ⟨u, e1, e2⟩ := hs (n + 1) p (by simpa using hp)
      exact ⟨u, by simpa using e1, e2⟩
    · rw [q3]
      simp
theorem zip_rev {α β : Type} : ∀ {xs : List α} {ys : List β}, xs.length = ys.length → (xs.zip ys).reverse = xs.reverse.zip ys.reverse
  | [], [], _ => rfl
  | x :: xs, y :: ys, h => by
    have h : xs.length = ys.length := by simpa using h
    rw [List.zip_cons_cons, List.reverse_cons, zip_rev h, List.reverse_cons, List.reverse_cons, List.zip_append (by simp [h])]
    rfl
/-- A CLASS WHOSE __init__ TELLS super() ITS ARGUMENTS, THEN STORES THEM -/
theorem xc_of {C0 : Cf} {X : Cx} {W : WX} {c : Nat} {x : Str} {Cc f cc : Addr} {F : NF} {slf : Str} {N ps : List Str} {names : List Str} {e0 : Expr} {es0 : List Expr} {rest : List Stmt} {p0 p1 p2 p3 p4 : Pos} {l : List (Str × Nat)} {la : List Nat}
    (T : SupK X.K X.prog Cc f F cc slf ps) (S : NScope N ps ["__class__"] F.scope) (hbody : F.body = .Expr (.Call (.Attribute (.Call (.Name "super" p0) [] [] p1) "__init__" p2) (e0 :: es0) [] p3) p4 :: rest)
    (hst : (e0 :: es0).all (fun e => !isStar e) = true) (hcall : ∃ pl : Addr → Sem Bool, ∀ L, eval (.Call (.Attribute (.Call (.Name "super" p0) [] [] p1) "__init__" p2) (e0 :: es0) [] p3) (envF F f L) = (do
      let ov ← attributeBase (.Call (.Name "super" p0) [] [] p1) "__init__" (envF F f L) (eval (.Call (.Name "super" p0) [] [] p1) (envF F f L))
      standAt p2.atName
      let (g, first) ← holding [ov] (getMethod ov "__init__" (pl L))
      callWith p3 g first (backTo p3 (starEach (e0 :: es0) (envF F f L))) []))
    (hargs : bArgs N (e0 :: es0) la = true) (hsto : bStores N slf rest l = true) (hl : l = (names.zip (List.range names.length)).map fun p => (p.1, p.2 + 1)) (hpn : ps.length = names.length + 1) (hla : ∀ i ∈ la, i < ps.length) (hla2 : la.length ≤ 1000) (hne : names ≠ []) (hz : names.length ≤ 900)
    (h0 : N[0]? = some slf) (hvis : ∀ (i : Nat) (y : Str), N[i]? = some y → Vis F.scope y) (hd : (slf == ("__debug__" : Str)) = false) (hcd : (slf == ("__classdict__" : Str)) = false)
    (hno : ∀ p ∈ l, PySem.W.findIn X.K (.ref Cc) p.1 = some none) (hX : C0.Xn c = some (Cc, names.reverse)) (gm : X.mg x = some (.ref Cc)) (hdb : (x == ("__debug__" : Str)) = false)
    (iC : PySem.W.findIn X.K (.ref Cc) "__init__" = some (some (.ref f))) (tI : PySem.W.typeIn X.K (.ref f) = some (.type "function"))
    (hbd : ∀ (doc pm ct : Value), Binds X.K (F.fd doc pm ct) ps []) (hcalm : X.calm = true) (hr : Room 3 X.A) (tk : Takes X W) :
    XcOk C0 X c x names.length := by
  obtain ⟨oc, od, doc, pm, ct, osl, lk⟩ := T.lk
  obtain ⟨pl, hcall⟩ := hcall
  refine ⟨Cc, names.reverse, hX, List.length_reverse, fun ta e es p pos hg ha hlen hse hpl => ?_⟩
  have h1 : isStar e0 = false := by
    simp only [List.all_cons, Bool.and_eq_true, Bool.not_eq_true'] at hst
    exact hst.1
  have h2 : es0.all (fun e => !isStar e) = true := by
    simp only [List.all_cons, Bool.and_eq_true] at hst
    exact hst.2
  have F1 := init_ok (P := X.prog) (w := X.w) (K := X.K) (mg := X.mg) (base := X.base) (k := 1) (ta := tVars la) (tr := tChain X.K l) T S hbody (fun env => star_cons h1) (fun env => plain_of h2)
    (fun A outer s H E => pa_args (X := ncx (L2.CX X.prog X.w) X.prog X.w X.K X.mg X.base N F f A outer s H E) hvis hargs)
    (fun A outer s H E => pss_stores (X := ncx (L2.CX X.prog X.w) X.prog X.w X.K X.mg X.base N F f A outer s H E) h0 hvis hd hcd hsto) pl hcall lk
  have ha' : PA X (e :: es) (fun σ H Q => ∃ Q0, ta σ H Q0 ∧ ∀ vs H1, Q0 vs H1 → Q vs H1) := ⟨fun pos pins s σ H Q I ⟨Q0, h, m⟩ => thn (ha.run pos pins s σ H Q0 I h) fun us s1 ⟨vs, H1, I1, r, q⟩ => ⟨vs, H1, I1, r, m _ _ q⟩⟩
  have key := pmk_oex (X := X) (x := x) (e := e) (es := es) (p := p) (pos := pos) T.oex iC tI F1 hr (hbd doc pm ct) .nil (fun pins σ H s ee s' I z => passes_call tk (fun _ _ _ _ z => z.elim) pins σ H s ee s' I z) hg gm ha' hdb hse hpl
  intro pins s σ H Q I h
  refine key pins s σ H Q I ⟨_, h, fun vs H1 hq => ?_⟩
  obtain ⟨hv, hv2, hq⟩ := hq
  refine ⟨hv2, fun a hna => ?_⟩
  have hlen2 : (V.ref a :: (vs ++ [])).length = ps.length := by rw [List.append_nil, List.length_cons, hv, hpn]
  have hst0 : ∀ i v, (V.ref a :: vs)[i]? = some v → (startF N (V.ref a :: (vs ++ [])) [some (.ref Cc)])[i]? = some (some v) := fun i v hi => by
    have hlt : i < (V.ref a :: vs).length := (List.getElem?_eq_some_iff.mp hi).1
    unfold startF
    rw [List.append_nil, List.getElem?_append_left (by rw [List.length_map]; exact hlt), List.getElem?_map, hi]
    rfl
  have hll : l.length = names.length := by rw [hl, List.length_map, List.length_zip, List.length_range, Nat.min_self]
  have hlm : l.map (·.1) = names := by
    rw [hl, List.map_map]
    have : ((fun p : Str × Nat => p.1) ∘ fun p : Str × Nat => (p.1, p.2 + 1)) = Prod.fst := rfl
    rw [this, List.map_fst_zip]
    rw [List.length_range]; exact Nat.le_refl _
  refine ⟨a, vs ++ [], hlen2, rfl, upd_same, vars_ok (fun i hi => ?_) fun us hus => ⟨by omega, upd_same, ?_⟩⟩
  · have hi2 : i < (V.ref a :: vs).length := by
      have := hla i hi
      rw [List.append_nil] at hlen2
      omega
    exact ⟨_, hst0 i _ (List.getElem?_eq_getElem hi2)⟩
  · refine chain_start (vs := vs) T.oex (hst0 0 _ rfl) (fun n p hp => ?_) (by rw [hll, hv]) hno (by omega) (fun z => hne (by rw [← hlm, z]; rfl)) hna fun d H' hd1 had k1 k2 k3 => ?_
    · have hn : n < names.length := by rw [← hll]; exact (List.getElem?_eq_some_iff.mp hp).1
      rw [hl, List.getElem?_map] at hp
      obtain ⟨q, hq1, hq2⟩ := Option.map_eq_some_iff.mp hp
      have hq3 := List.getElem?_zip_eq_some.mp hq1
      have hq4 : q.2 = n := by
        have := hq3.2
        rw [List.getElem?_range hn] at this
        exact (Option.some.inj this).symm
      have hnv : n < vs.length := by omega
      refine ⟨vs[n], List.getElem?_eq_getElem hnv, ?_⟩
      rw [← hq2]
      show (startF N _ _)[q.2 + 1]? = _
      rw [hq4]
      exact hst0 (n + 1) _ (by rw [List.getElem?_cons_succ]; exact List.getElem?_eq_getElem hnv)
    · refine ⟨rfl, d, _, k2, k3, hd1, ?_⟩
      have hz2 : ((l.map (·.1)).zip vs).reverse = names.reverse.zip vs.reverse := by
        rw [hlm]
        exact zip_rev (by rw [hv])
      rw [hz2]
      have hH : upd (del H' a) d (.xd (names.reverse.zip vs.reverse)) = upd H1 d (.xd (names.reverse.zip vs.reverse)) := by
        funext b
        by_cases b1 : b = d
        · rw [b1, upd_same, upd_same]
        · rw [upd_ne b1, upd_ne b1]
          by_cases b2 : b = a
          · rw [b2, del_same, hna]
          · rw [del_ne b2]; exact k1 b b2 b1
      rw [hH]
      exact hq d hd1
end Tre
set_option maxHeartbeats 2000000
/-! TreS: _law_source, the same text in all laws. -/
namespace Tre
open PySem PySem.Spec PyProof.Rows L2

/-- the def's text, its places left open -/
def srcBody (cs : Scope) (p : Nat → Pos) : List Stmt :=
  [.Assign [.Name "mixed" (p 0)] (.Constant (.int 11) 0 (p 1)) (p 2),
   .For (.Name "cell" (p 3)) (.Name "script" (p 4)) [.Assign [.Name "mixed" (p 5)] (.BinOp (.Call (.Name "int" (p 6)) [.BinOp (.BinOp (.BinOp (.Name "mixed" (p 7)) .Mult (.Constant (.int 69069) 0 (p 8)) (p 9)) .Add (.BinOp (.Name "cell" (p 10)) .Mult (.Constant (.int 31) 0 (p 11)) (p 12)) (p 13)) .Add (.Constant (.int 5) 0 (p 14)) (p 15)] [] (p 16)) .Mod (.Constant (.int 2147483629) 0 (p 17)) (p 18)) (p 19)] [] (p 20),
   .Return (some (.Dict [some (.Constant (.str "cells") 0 (p 21)), some (.Constant (.str "left") 0 (p 22)), some (.Constant (.str "mixed") 0 (p 23)), some (.Constant (.str "turn") 0 (p 24))]
     [.Subscript (.ListComp (.Call (.Name "abs" (p 25)) [.Name "cell" (p 26)] [] (p 27)) [⟨.Name "cell" (p 28), .Name "script" (p 29), [], 0⟩] cs (p 30)) (.Slice none none (some (.UnaryOp .USub (.Constant (.int 1) 0 (p 31)) (p 32))) (p 33)) (p 34), .Constant (.int 1) 0 (p 35), .Name "mixed" (p 36), .Constant (.int 0) 0 (p 37)] (p 38))) (p 39)]
def srcN : List Str := ["script", "mixed", "cell"]
/-- what it gives -/
def absL (ns : List Int) : List Int := (ns.map fun i => if i < 0 then -i else i).reverse
def spSrc (K : PySem.W.Frag) : Sp := fun vs H Q _ => ∃ (a : Addr) (ns : List Int), vs = [.ref a] ∧ SqL K H a (ns.map V.int) ∧ ns.length ≤ sizeLine ∧
  ∀ (d c : Addr) (m : Int) (H' : Hp), d ≠ c → H d = none → H c = none → (∀ b o, H b = some o → H' b = some o) → H' d = some (.dK [(.inr "cells", .ref c), (.inr "left", .int 1), (.inr "mixed", .int m), (.inr "turn", .int 0)]) → H' c = some (.lst ((absL ns).map V.int)) → Q (.ref d) H'
def tMix : TE := tOp (rI (fun _ j => 0 < j) fun i j => .int (i % j)) (tCB (fun xs H Q => (∃ i, xs = [.int i] ∧ Q (.int i) H) ∨ ∃ k, xs = [.bl k] ∧ Q (.int (if k then 1 else 0)) H)
  (tCons (tOp (rI0 fun i j => .int (i + j)) (tOp (rI0 fun i j => .int (i + j)) (tOp (rI CMul fun i j => .int (i * j)) (tVar 1) (tC (.int 69069))) (tOp (rI CMul fun i j => .int (i * j)) (tVar 2) (tC (.int 31)))) (tC (.int 5))) tNil)) (tC (.int 2147483629))
def tCells (K : PySem.W.Frag) : TE := tRevL K (tLc (iList K (tVar 0)) (gName 2) tYes (tCB (fun xs H Q => ∃ i, xs = [.int i] ∧ Q (.int (if i < 0 then -i else i)) H) (tCons (tVar 2) tNil)) [2])
def tSrc (K : PySem.W.Frag) : TS := tSeq (tAsg (tC (.int 11)) (gName 1)) (tSeq (tFor (iList K (tVar 0)) (gName 2) (tAsg tMix (gName 1)))
  (tRet (tDisp [(tC (.str "cells"), tCells K), (tC (.str "left"), tC (.int 1)), (tC (.str "mixed"), tVar 1), (tC (.str "turn"), tC (.int 0))])))
section
variable {X : Cx} {cs : Scope} {p : Nat → Pos}
theorem src_walk (hN : X.N = srcN) (hs : X.env.scope.names.lookup ("script" : Str) = some .local) (hm : X.env.scope.names.lookup ("mixed" : Str) = some .local) (hc : X.env.scope.names.lookup ("cell" : Str) = some .local) (hi : Gl X "int") (ha : cs.names.lookup ("abs" : Str) = some .globalImplicit) (hcc : cs.names.lookup ("cell" : Str) = some .local)
    (hfn : ∀ x, X.fn x = true) (hcalm : X.calm = true) (hp : PassesOwn (model X.prog X.w) X.A X.env X.xe) (mi : X.mg "int" = none) (ma : X.mg "abs" = none) (ok : BlkOk X.N X.env.scope cs [("cell", 2)]) : PSs X (srcBody cs p) (tSrc X.K) := by
  have nd : X.N.Nodup := by rw [hN]; decide +kernel
  have n0 : X.N[0]? = some ("script" : Str) := by rw [hN]; rfl
  have n1 : X.N[1]? = some ("mixed" : Str) := by rw [hN]; rfl
  have n2 : X.N[2]? = some ("cell" : Str) := by rw [hN]; rfl
  have b1 : bootBuiltins ("int" : Str) = some (.type "int") := by decide +kernel
  have b2 : bootBuiltins ("abs" : Str) = some (.builtin "abs") := by decide +kernel
  refine pss_cons (ps_asg pe_int (pg_name nd n1 (.inl hm) (.inl (hfn _)))) (pss_cons ?_ (pss_one (ps_ret (pe_disp (pps_cons pe_str ?_ (pps_cons pe_str pe_int (pps_cons pe_str (pe_var n1 (.inl hm)) (pps_cons pe_str pe_int pps_nil)))) rfl rfl (by simp) (by show 4 ≤ 15; decide)))))
  · refine ps_for hp hcalm (pi_list (pe_var n0 (.inl hs))) (pg_name nd n2 (.inl hc) (.inl (hfn _))) (pss_one (ps_asg (pe_op op_mod (pe_callTy call_int1 hi mi b1 (pa_cons (pe_op op_add (pe_op op_add (pe_op op_mul (pe_var n1 (.inl hm)) pe_int) (pe_op op_mul (pe_var n2 (.inl hc)) pe_int)) pe_int) pa_nil)) pe_int) (pg_name nd n1 (.inl hm) (.inl (hfn _)))))
  · refine pe_revL (pe_lc hcalm nd (pi_list (pe_var n0 (.inl hs))) ok (fun s H C cl fp => pg_name nd n2 (.inl ?_) (.inr ?_)) (fun s H C cl fp => pts_nil) fun s H C cl fp => pe_callB call_abs ?_ ma b2 (pa_cons (pe_var n2 (.inl ?_)) pa_nil))
    · exact lookup_relS_keep (sc := X.env.scope) (by decide) hcc
    · exact lookup_relS_keep (sc := X.env.scope) (by decide) hcc
    · exact lookup_relS_keep (sc := X.env.scope) (by decide) ha
    · exact lookup_relS_keep (sc := X.env.scope) (by decide) hcc
end

theorem Same.sqL {K : PySem.W.Frag} {H H' : Hp} {a : Addr} {xs : List V} (e : Same H H') (h : SqL K H a xs) : SqL K H' a xs := by
  rcases h with (h | ⟨o, h⟩) | h
  · exact .inl (.inl (e _ _ h))
  · exact .inl (.inr ⟨o, e _ _ h⟩)
  · exact .inr h
theorem merge4 {a b c d : V} : mergeK [] [((.inr "cells" : Key), a), (.inr "left", b), (.inr "mixed", c), (.inr "turn", d)] = [(.inr "cells", a), (.inr "left", b), (.inr "mixed", c), (.inr "turn", d)] := rfl
theorem absV (ns : List Int) : ((ns.map fun i => V.int (if i < 0 then -i else i)).reverse) = (absL ns).map V.int := by
  unfold absL
  rw [List.map_reverse, List.map_map]
  rfl
theorem src_pure {K : PySem.W.Frag} {vs : List V} {H : Hp} {Q : VK} {E : XK} (h : spSrc K vs H Q E) : tSrc K { nx := fun _ H' => Q .non H', rt := Q } (L2.start srcN vs) H := by
  obtain ⟨a, ns, rfl, hs, hl, hQ⟩ := h
  have lm : (ns.map V.int).length = ns.length := List.length_map _
  refine ⟨.ref a, rfl, a, rfl, ⟨_, hs⟩, ?_⟩
  refine for_list (xs := ns.map V.int) (fun i σ H' => H' = H ∧ ∃ (m : Int) (o : Option V), σ = [some (.ref a), some (.int m), o]) ⟨rfl, 11, none, rfl⟩ (fun i σ H' _ p => by rw [p.1]; exact hs) (fun i x σ H' hx p => ?_) fun σ H' p => ?_
  · obtain ⟨rfl, m, o, rfl⟩ := p
    rw [List.getElem?_map] at hx
    obtain ⟨c, _, rfl⟩ := Option.map_eq_some_iff.mp hx
    have k1 : CMul m 69069 := .inr (by omega)
    have k2 : CMul c 31 := .inr (by omega)
    exact ⟨_, rfl, _, _, rfl, rfl, k1, _, rfl, _, _, rfl, rfl, k2, _, _, rfl, rfl, _, _, rfl, rfl, .inl ⟨_, rfl, _, _, rfl, rfl, by omega, rfl, _, some (.int c), rfl⟩⟩
  · obtain ⟨rfl, m, o, rfl⟩ := p
    intro d hd
    refine ⟨.ref a, rfl, a, rfl, ⟨_, Same.sqL (same_new hd) hs⟩, fun D hD => ?_⟩
    have hDd : D ≠ d := fun z => by rw [z, upd_same] at hD; cases hD
    have hD0 : H' D = none := by rw [upd_ne hDd] at hD; exact hD
    have sm : ∀ xs : List V, Same H' (upd (upd H' d (.dK [])) D (.lst xs)) := fun xs => (same_new hd).trans (same_new hD)
    refine lc_list (xs := ns.map V.int) (fun i H2 => H2 = upd (upd H' d (.dK [])) D (.lst ((ns.take i).map fun i => V.int (if i < 0 then -i else i)))) rfl (fun i H2 _ p => by rw [p]; exact Same.sqL (sm _) hs) (fun i x H2 hx p => ?_) fun H2 p => ?_
    · subst p
      rw [List.getElem?_map] at hx
      obtain ⟨c, hc, rfl⟩ := Option.map_eq_some_iff.mp hx
      refine ⟨rfl, .int c, rfl, c, rfl, _, upd_same, ?_, ?_⟩
      · rw [List.length_map, List.length_take]
        have := (List.getElem?_eq_some_iff.mp hc).1
        omega
      · rw [upd_upd, List.take_add_one, hc]
        simp
    · subst p
      rw [lm, List.take_length]
      refine ⟨D, _, rfl, .inl (.inl upd_same), fun p hp => ?_⟩
      rw [absV]
      have hpD : p ≠ D := fun z => by rw [z, upd_same] at hp; cases hp
      have hp1 : upd H' d (.dK []) p = none := by rw [upd_ne hpD] at hp; exact hp
      have hpd : p ≠ d := fun z => by rw [z, upd_same] at hp1; cases hp1
      have hp0 : H' p = none := by rw [upd_ne hpd] at hp1; exact hp1
      refine ⟨_, rfl, ?_, [(.inr "cells", .ref p), (.inr "left", .int 1), (.inr "mixed", .int m), (.inr "turn", .int 0)], rfl, by show 4 ≤ 15; decide, ?_⟩
      · rw [upd_ne (fun z => hpd z.symm), upd_ne (fun z => hDd z.symm), upd_same]
      · rw [merge4]
        refine hQ d p m _ (fun z => hpd z.symm) hd hp0 (fun b o e => ?_) upd_same ?_
        · have e1 := sm ((ns.map fun i => V.int (if i < 0 then -i else i))) b o e
          have e2 := same_new (o := .lst ((absL ns).map V.int)) hp b o e1
          rw [upd_ne (ne_of_none e hd)]
          exact e2
        · rw [upd_ne hpd, upd_same]
end Tre
set_option maxHeartbeats 2000000
/-! TreL: the law's def: its source, then the rest by its tree. -/
namespace Tre
open PySem PySem.Spec PyProof.Rows L2 LamX

theorem blk_of {N : List Str} {sc scope : Scope} {ws : List Nat} (h : bBlk N sc scope ws = true) : BlkOk N sc scope (ownsOf N ws) := by
  unfold bBlk at h
  simp only [Bool.and_eq_true, decide_eq_true_eq, List.all_eq_true, Bool.or_eq_true, Bool.not_eq_true', decide_eq_false_iff_not, List.any_eq_true, Bool.or_eq_false_iff] at h
  obtain ⟨⟨⟨⟨h1, h2⟩, h3⟩, h4⟩, h5⟩ := h
  refine ⟨h1, fun y hy => h2 y hy, fun p hp => h3 p hp, fun y hy e => ?_, fun y hy e => ?_⟩
  · rcases h4 y hy with (z | z) | z
    · exact absurd e z
    · exact .inl z
    · exact .inr z
  · rcases h5 y hy with (z | z) | z
    · rcases e with e | e
      · exact absurd e z.1
      · exact absurd e z.2
    · obtain ⟨p, hp, e⟩ := z
      exact .inl (List.mem_map.mpr ⟨p, hp, e⟩)
    · exact .inr fun hm => z _ hm rfl
/-- what is looked at of the two scopes of _law_source -/
def srcB (sc cs : Scope) : Bool := decide (sc.names.lookup ("script" : Str) = some .local) && decide (sc.names.lookup ("mixed" : Str) = some .local) && decide (sc.names.lookup ("cell" : Str) = some .local) && decide (sc.names.lookup ("int" : Str) = some .globalImplicit)
  && decide (cs.names.lookup ("abs" : Str) = some .globalImplicit) && decide (cs.names.lookup ("cell" : Str) = some .local) && bBlk srcN sc cs [2]
section
variable {prog : Program} {w : World} {K : PySem.W.Frag} {mg : Str → Option Value} {base : Heap}
theorem src_ok {k : Nat} {qual : Str} {params : Arguments} {scope cs : Scope} {p : Nat → Pos} {f : Addr} {fd : FuncData} (F : FunD K "_law_source" qual params (srcBody cs p) scope [] [] f fd) (fs : FnScope srcN ["script"] scope) (hb : srcB scope cs = true)
    (mi : mg "int" = none) (ma : mg "abs" = none) : FnG prog w K mg base (L2.CX prog w) (k + 1) f fd ["script"] (spSrc K) := by
  obtain ⟨oc, od, dV, kV, doc, pm, an, cdv, ct, osl, rfl, lk, hcd, _, _⟩ := F.ex
  unfold srcB at hb
  simp only [Bool.and_eq_true, decide_eq_true_eq] at hb
  obtain ⟨⟨⟨⟨⟨⟨h1, h2⟩, h3⟩, h4⟩, h5⟩, h6⟩, h7⟩ := hb
  refine fnG_of lk hcd fs (fun vs H Q E h => ?_) fun A outer s H vs Q E hA hr h => ⟨tSrc K, ?_, src_pure h⟩
  · obtain ⟨a, ns, rfl, _⟩ := h
    rfl
  · exact src_walk (X := cxOf (L2.CX prog w) prog w K mg base srcN qual scope f cdv A outer s H E) rfl h1 h2 h3 h4 h5 h6 (fun _ => rfl) rfl (passes_of rfl) mi ma (blk_of h7)

def spLaw (ts : List (Addr × Str)) (K : PySem.W.Frag) : Sp := fun vs H Q _ => ∃ (a : Addr) (ns : List Int), vs = [.ref a] ∧ SqL K H a (ns.map V.int) ∧ ns.length ≤ sizeLine ∧ Tabs ts H ∧ ∀ H', Q (.bl true) H'
def lawE (n : Nat) : Env := .e :: .src :: List.replicate (n - 2) .e
theorem rl_law {S : SA} {H : Hp} {s : Src} {n : Nat} {a : Addr} (hn : 2 ≤ n) {N : List Str} (hN : N.length = n) (q : SrcR S H s) : Rl K S S.Out H S.Out (lawE n) ((L2.start N [.ref a]).set 1 (some (.ref S.a1))) H where
  len := by
    unfold lawE L2.start
    simp
    omega
  so := fun _ h => h
  sub := fun _ h => h
  dom := fun _ h => q.there h
  dom0 := fun _ h => q.there h
  same := Ex.refl _ _
  slots := fun i x o h1 h2 => by
    unfold lawE at h1
    match i with
    | 0 => cases h1; trivial
    | 1 =>
      cases h1
      have hl : 1 < (L2.start N [V.ref a]).length := by
        unfold L2.start
        simp
        omega
      rw [List.getElem?_set_self hl] at h2
      cases h2
      rfl
    | i + 2 =>
      have h1 : (List.replicate (n - 2) Slot.e)[i]? = some x := h1
      rw [(List.mem_replicate.mp (List.mem_of_getElem? h1)).2]
      trivial
  inj := fun i j d d' b h1 _ _ _ => by
    unfold lawE at h1
    match i with
    | 0 => cases h1
    | 1 => cases h1
    | i + 2 =>
      have h1 : (List.replicate (n - 2) Slot.e)[i]? = some (.d true d) := h1
      have := (List.mem_replicate.mp (List.mem_of_getElem? h1)).2
      cases this
section
variable {P : List Fn} {G : Nat → Option D} {fns cns : List Str} {xcs : List (Str × Nat)} {ts : List (Addr × Str)} {Xn : XT}
/-- THE LAW'S DEF -/
theorem law_ok {kP : Nat} {tds : List (Str × Nat × Str × Str)} {N : List Str} {bL : T} {qual : Str} {params : Arguments} {scope : Scope} {rest : List Stmt} {p0 p1 p2 p3 p4 : Pos} {f : Addr} {fd : FuncData} (p : ProgOk P G fns cns xcs ts Xn prog w K mg base)
    (F : FunD K "law" qual params (.Assign [.Name "source" p0] (.Call (.Name "_law_source" p1) [.Name "script" p2] [] p3) p4 :: rest) scope [] [] f fd) (fs : FnScope N ["script"] scope) (n0 : N[0]? = some ("script" : Str)) (n1 : N[1]? = some ("source" : Str))
    (hs : scope.names.lookup ("source" : Str) = some .local ∨ scope.names.lookup ("source" : Str) = some .cell) (hg : scope.names.lookup ("_law_source" : Str) = some .globalImplicit)
    (Sg : ∃ (a : Addr) (fd : FuncData), mg "_law_source" = some (.ref a) ∧ PySem.W.keepIn K (.ref a) = true ∧ Binds K fd ["script"] [] ∧ ∀ k, FnG prog w K mg base (L2.CX prog w) (k + 1) a fd ["script"] (spSrc K))
    (hc : chkSs N fns cns tds xcs scope bL rest = true)
    (td : ∀ (A : Around) (outer : List PySem.Env) (s : Shared) (H : Hp) (E : XK) (cdv : Value), (∃ (oc : Value) (od : Option Addr) (dV kV doc pm : Value) (an : Option Addr) (ct : Value) (osl : Array (Option Value)), K.lookup f = some ⟨oc, od, .func (PySem.W.fnOf "law" qual params (.Assign [.Name "source" p0] (.Call (.Name "_law_source" p1) [.Name "script" p2] [] p3) p4 :: rest) scope dV kV doc pm an cdv ct), osl⟩) →
      PySem.W.codeIn K cdv qual = true → A.guards = some [] → Room (kP + 5) (A.deeper (envOfC qual scope s.heap.objs.size f cdv)) → ∀ (x : Str) (c : Nat) (okS badS : Str), (x, c, okS, badS) ∈ tds → TdOk ⟨Phi P G kP, G, Xn, xcs, ts, tds⟩ (cxOf (L2.CX prog w) prog w K mg base N qual scope f cdv A outer s H E) (kP + 3) x c okS badS)
    (plain : ∀ s : Src, ∃ o s', evS (Phi P G kP) G bL (lawE N.length) s = .ok (.ret o (.bool true)) s') :
    FnG prog w K mg base (L2.CX prog w) (kP + 6) f fd ["script"] (spLaw ts K) := by
  obtain ⟨oc, od, dV, kV, doc, pm, an, cdv, ct, osl, rfl, lk, hcd, _, _⟩ := F.ex
  refine fnG_of lk hcd fs (fun vs H Q E h => ?_) fun A outer s H vs Q E hA hr h => ?_
  · obtain ⟨a, ns, rfl, _⟩ := h
    rfl
  obtain ⟨aS, fdS, hm, hk, hbS, FS⟩ := Sg
  let X := cxOf (L2.CX prog w) prog w K mg base N qual scope f cdv A outer s H E
  let W : WX := fun cls d _ H => E cls d H
  have tk : Takes X W := takes_of rfl rfl rfl rfl
  have hr3 : Room (kP + 3) X.A := hr.mono (by omega)
  have sx : SX ⟨Phi P G kP, G, Xn, xcs, ts, tds⟩ (kP + 3) fns cns X W :=
    ⟨⟨fs.nd, rfl, hA, hr3, p.blt, prog_ok p kP, p.cn⟩, tk, passes_of rfl, fun _ => rfl, fs.kind, fun c x ar h => p.xc c x ar h (Phi P G kP) X W rfl rfl rfl rfl rfl rfl (hr.mono (by omega)) tk⟩
  have hv : Vis scope ("script" : Str) := (fs.par _ (by simp)).imp id fun z => .inl z
  have fst : PS X (.Assign [.Name "source" p0] (.Call (.Name "_law_source" p1) [.Name "script" p2] [] p3) p4) (tAsg (fun σ H Q => tCons (tVar 0) tNil σ H fun vs H1 => spSrc K vs H1 Q (WE W σ)) (gName 1)) :=
    ps_asg (pe_callG (X := X) (E := WE W) (FS (kP + 4)) hA hr hg hm hk hbS (fun σ => passAt tk σ) (pa_cons (pe_var n0 hv) pa_nil) rfl rfl rfl) (pg_name fs.nd n1 hs (.inl rfl))
  have rst : PSs X rest (fun Nn σ H => ∃ B : Bx, B.S.ts = ts ∧ tS ⟨Phi P G kP, G, Xn, xcs, ts, tds⟩ K B W bL Nn σ H) := ⟨fun pins s' σ H' Nn I ⟨B, hB, h⟩ =>
    (okSs (C := ⟨Phi P G kP, G, Xn, xcs, ts, tds⟩) (k := kP + 3) (fns := fns) (cns := cns) (N := N) (X := X) (B := B) (W := W) (sc := scope) ⟨hB, td A outer s H E cdv ⟨oc, od, dV, kV, doc, pm, an, ct, osl, lk⟩ hcd hA hr, sx, rfl, rfl⟩ bL rest hc).run pins s' σ H' Nn I h⟩
  refine ⟨_, pss_cons fst rst, ?_⟩
  obtain ⟨a, ns, rfl, hsq, hl, hT, hQ⟩ := h
  refine ⟨.ref a, rfl, a, ns, rfl, hsq, hl, fun d c m H' hdc hd hcn hk2 e1 e2 => ?_⟩
  have q : SrcR ⟨d, c, ts⟩ H' ⟨absL ns, 1, m, 0⟩ := ⟨hdc, e1, e2, hT.ext hk2⟩
  have hn : 2 ≤ N.length := by
    have := (List.getElem?_eq_some_iff.mp n1).1
    omega
  refine ⟨⟨⟨d, c, ts⟩, SA.Out ⟨d, c, ts⟩, H'⟩, rfl, lawE N.length, ⟨absL ns, 1, m, 0⟩, SA.Out ⟨d, c, ts⟩, rl_law (K := K) (a := a) hn rfl q, q, ?_⟩
  obtain ⟨o, s', e⟩ := plain ⟨absL ns, 1, m, 0⟩
  have e : evS (Phi P G kP) G bL (lawE N.length) ⟨absL ns, 1, m, 0⟩ = _ := e
  show RQ (evS (Phi P G kP) G bL (lawE N.length) ⟨absL ns, 1, m, 0⟩) _ _
  rw [e]
  intro v H2 _ _ hv2
  obtain rfl := hv2.bool
  exact hQ H2
end
end
end Tre
set_option maxHeartbeats 2000000
/-! TreT: what is told of the def that catches. -/
namespace Tre
open PySem PySem.Spec PyProof.Rows L2 LamX

/-- try: return (okS, a()) / except e as n: return (badS, n.fld) -/
def raisedBody (a e n okS badS fld : Str) (j j2 k1 k2 : Nat) (p : Nat → Pos) : List Stmt :=
  [.Try [.Return (some (.Tuple [.Constant (.str okS) j (p 1), .Call (.Name a (p 2)) [] [] (p 3)] k1 (p 4))) (p 5)] [.ExceptHandler (some (.Name e (p 6))) (some n) [.Return (some (.Tuple [.Constant (.str badS) j2 (p 7), .Attribute (.Name n (p 8)) fld (p 9)] k2 (p 10))) (p 11)] (p 12)] [] [] (p 13)]
theorem noPar_eq {a : Arguments} (h : noPar a = true) : a = ⟨[], [], none, [], [], none, []⟩ := by
  obtain ⟨p1, p2, p3, p4, p5, p6, p7⟩ := a
  unfold noPar at h
  simp only [Bool.and_eq_true, List.isEmpty_iff, Option.isNone_iff_eq_none] at h
  obtain ⟨⟨⟨⟨⟨⟨rfl, rfl⟩, rfl⟩, rfl⟩, rfl⟩, rfl⟩, rfl⟩ := h
  rfl
section
variable {C : Cf} {X : Cx} {k c : Nat} {x okS badS a e n fld : Str} {j j2 k1 k2 : Nat} {p : Nat → Pos} {Ng : List Str} {sg : Scope} {pg : Arguments} {g CS cA P : Addr} {fdg : FuncData}
theorem td_of (hA : X.A.guards = some []) (hr : Room (k + 2) X.A) (hm : X.mg x = some (.ref g)) (F : FunD X.K x x pg (raisedBody a e n okS badS fld j j2 k1 k2 p) sg [] [] g fdg) (hb : Binds X.K fdg [a] []) (Sg : FnScope Ng [a] sg)
    (hNg : Ng = [a, n]) (hln : sg.names.lookup n = some .local) (hva : sg.names.lookup a = some .local) (hge : sg.names.lookup e = some .globalImplicit) (hme : X.mg e = some (.ref CS)) (T : XfC X.K CS) (hno : PySem.W.findIn X.K (.ref CS) fld = some none)
    (hex : PySem.W.exmOne X.K (.ref CS) (.ref CS) = some true) (hXn : C.Xn c = some (CS, [fld])) (TB : TabB X.base X.mg cA P) (hcode : X.env.code = .ref cA) (hmT : (P, X.env.qual ++ "<lambda>") ∈ C.ts) (hu : ∀ q ∈ C.ts, q.1 = P → q.2 = X.env.qual ++ "<lambda>")
    (hx : (x == ("__debug__" : Str)) = false) (ha1 : (a == ("__debug__" : Str)) = false) (ha2 : (a == ("__classdict__" : Str)) = false) (hn1 : (n == ("__debug__" : Str)) = false) (hn2 : (n == ("__classdict__" : Str)) = false) (he : (e == ("__debug__" : Str)) = false) :
    TdOk C X k x c okS badS := by
  obtain ⟨oc, od, dV, kV, doc, pm, an, cdv, ct, osl, rfl, lk, hcd, _, _⟩ := F.ex
  subst hNg
  refine ⟨P, CS, fld, ⟨_, hmT⟩, hXn, hex, fun params body scope lpos p1 pos t hgx L hpar hbody => ?_⟩
  obtain rfl := noPar_eq hpar
  refine pe_lamG (Ng := [a, n]) (a := a) (W := W0) takes0 hA hgx hm F.kp lk hcd hb Sg rfl (.inl hva) ?_ TB hcode hmT hu hr L rfl (fun _ _ _ _ _ => rfl) hbody hx ha1 ha2
  exact as_gives Sg.nd rfl hln hge hme he hn1 hn2 (fun _ => rfl) (fun _ => by show 1 < 2; decide) T hno
end
end Tre
set_option maxHeartbeats 2000000
/-! TreZ: the end of a law row, where no guard stands. -/
namespace Tre
open PySem PySem.Spec PyProof.Rows L2 LamX

open Classical in
/-- what is tracked at the call: the script (if it is no object of the module), the tables -/
noncomputable def endH (K : PySem.W.Frag) (a : Addr) (o : Obj) (xs : List V) (tb : List Addr) : Hp := fun b => if b = a ∧ K.lookup a = none then some (.frz o (.lst xs)) else if b ∈ tb then some (.tbl #[]) else none
section
variable {K : PySem.W.Frag} {a : Addr} {o : Obj} {xs : List V} {tb : List Addr}
theorem endH_cases {b : Addr} {u : HO} (e : endH K a o xs tb b = some u) : (b = a ∧ K.lookup a = none ∧ u = .frz o (.lst xs)) ∨ (b ∈ tb ∧ u = .tbl #[]) := by
  unfold endH at e
  split at e
  · rename_i c
    exact .inl ⟨c.1, c.2, (Option.some.inj e).symm⟩
  · split at e
    · exact .inr ⟨by assumption, (Option.some.inj e).symm⟩
    · cases e
theorem endH_tb {b : Addr} (h : b ∈ tb) (n : b ≠ a) : endH K a o xs tb b = some (.tbl #[]) := by
  unfold endH
  rw [if_neg (fun z => n z.1), if_pos h]
theorem endH_script (h : K.lookup a = none) : endH K a o xs tb a = some (.frz o (.lst xs)) := by
  unfold endH
  exact if_pos ⟨rfl, h⟩
end
abbrev emptyT : Obj := { cls := .none, data := .fields #[] }
abbrev rowL (vs : List Value) : Obj := { cls := .type "list", data := .seq vs.toArray }
section
variable {P : Program} {w : World} {K : PySem.W.Frag} {mg mb : Str → Option Value} {k : Nat} {fa a : Addr} {cs : List (Addr × Addr)} {fd : FuncData} {x : Str} {sp : Sp} {s : Shared} {vs : List Value} {ns : List Int}
theorem law_callG (KX : K.In s.heap) (hG : s.heap.Ns mainGlobals mg) (hB : s.heap.Ns builtinsNs mb) (hbb : ∀ x : Str, x ≠ "__name__" → mb x = bootBuiltins x) (hlim : s.heap.NoLimit) (hgen : s.gens = #[])
    (hT : ∀ p ∈ cs, s.heap.get? p.2 = some emptyT) (nT : ∀ p ∈ cs, K.lookup p.2 = none) (C : ∀ p ∈ cs, PySem.W.CodeHd s.heap p.1 p.2)
    (hbm : ∃ (bm : Addr) (ob : Obj), mg "__builtins__" = some (.ref bm) ∧ bm ≠ builtinsNs ∧ s.heap.get? bm = some ob ∧ ob.cls = .type "module" ∧ ob.dict = some builtinsNs ∧ ob.data = .plain)
    (ha : s.heap.get? a = some (rowL vs)) (hi : IntsAre vs ns) (hl : ns.length ≤ sizeLine) (hr : Room k callerA)
    (F : ∀ base : Heap, K.In base → base.Ns mainGlobals mg → (∀ p ∈ cs, TabB base mg p.1 p.2) → FnG P w K mg base (L2.CX P w) k fa fd [x] sp) (hbind : ∀ (s : Shared) (u : Value), BindsTo s fd ⟨[u], []⟩ [(x, u)])
    (hsp : ∀ H : Hp, (∀ p ∈ cs, H p.2 = some (.tbl #[])) → SqL K H a (ns.map V.int) → sp [.ref a] H (fun v _ => v = .bl true) fun _ _ _ => False) (hCX : ∀ H e s', L2.CX P w [] H s (fun _ _ _ => False) e s' → False) :
    codeAny (model P w) callerA (.call (.ref fa) ⟨[.ref a], []⟩) (fun r s' => r = .ok (.ret (.bool true)) ∧ OldK s.heap s'.heap ∧ s'.os = s.os ∧ AllBare s'.gens) s := by
  have rel : Vals (ns.map V.int) vs := vals_ints hi
  have len : vs.length = ns.length := hi.length
  have tabs : ∀ {b : Addr}, b ∈ cs.map (·.2) → s.heap.get? b = some emptyT ∧ K.lookup b = none := by
    intro b hb
    obtain ⟨p, hp, rfl⟩ := List.mem_map.mp hb
    exact ⟨hT p hp, nT p hp⟩
  let H : Hp := endH K a (rowL vs) (ns.map V.int) (cs.map (·.2))
  -- what is tracked is a list or an empty table, and none of the module's
  have seen : ∀ {b : Addr} {u : HO} {o : Obj}, H b = some u → s.heap.get? b = some o → (o = rowL vs ∨ o = emptyT) ∧ K.lookup b = none := by
    intro b u o hu ho
    rcases endH_cases hu with ⟨rfl, hk, _⟩ | ⟨hb, _⟩
    · exact ⟨.inl (Option.some.inj (ho.symm.trans ha)), hk⟩
    · exact ⟨.inr (Option.some.inj (ho.symm.trans (tabs hb).1)), (tabs hb).2⟩
  have free : ∀ {b : Addr} {o : Obj}, s.heap.get? b = some o → o ≠ rowL vs → o ≠ emptyT → H b = none := by
    intro b o ho n1 n2
    cases q : H b with
    | none => rfl
    | some u =>
      rcases (seen q ho).1 with z | z
      · exact absurd z n1
      · exact absurd z n2
  have base1 : ∀ {b : Addr} {o : Obj}, s.heap.get? b = some o → H b = none → (hidT s.heap H).get? b = some o := fun e n => hidT_get e n
  have dict : ∀ {o : Obj} {es : Array DictEntry} {n : Nat}, o.data = .dict es n → o ≠ rowL vs ∧ o ≠ emptyT := by
    intro o es n e
    constructor
    · rintro rfl
      cases e
    · rintro rfl
      cases e
  have names : ∀ {b : Addr} {m : Str → Option Value}, s.heap.Ns b m → (hidT s.heap H).Ns b m := by
    rintro b m ⟨o, es, n, e, d, r⟩
    exact ⟨o, es, n, base1 e (free e (dict d).1 (dict d).2), d, r⟩
  have KB : K.In (hidT s.heap H) := by
    intro b o e
    refine base1 (KX b o e) ?_
    cases q : H b with
    | none => rfl
    | some u => exact absurd ((seen q (KX b o e)).2.symm.trans e) (fun z => by cases z)
  obtain ⟨mc, lim1, lim2⟩ := hlim
  have M : L2.Mod K mg (hidT s.heap H) := ⟨KB, names hG, ⟨mb, names hB, hbb⟩, ⟨mc, names lim1, lim2⟩⟩
  have aT : ∀ {b : Addr}, b ∈ cs.map (·.2) → b ≠ a := by
    rintro b hb rfl
    have z := (tabs hb).1
    rw [ha] at z
    cases z
  have TB : ∀ p ∈ cs, TabB (hidT s.heap H) mg p.1 p.2 := by
    intro p hp
    have at_ := hT p hp
    refine ⟨?_, ?_, ?_⟩
    · obtain ⟨o, us, file, tf, flags, tg, inF, text, tt, e1, r1, r2, r3, more⟩ := C p hp
      refine ⟨o, us, file, tf, flags, tg, inF, text, tt, base1 e1 (free e1 (fun z => ?_) fun z => ?_), r1, r2, r3, more⟩
      · rw [z] at r2; cases r2
      · rw [z] at r2
        cases r2
        simp at r3
    · obtain ⟨bm, ob, b1, b2, b3, b4, b5, b6⟩ := hbm
      have other : ∀ {o : Obj}, (o = rowL vs ∨ o = emptyT ∨ ∃ es n, o.data = .dict es n) → ob ≠ o := by
        rintro o (rfl | rfl | ⟨es, n, z⟩) rfl
        · cases b6
        · cases b6
        · rw [b6] at z; cases z
      refine ⟨bm, ob, b1, b2, fun z => ?_, fun z => ?_, base1 b3 (free b3 (other (.inl rfl)) (other (.inr (.inl rfl)))), b4, b5, b6⟩
      · obtain ⟨o, es, n, e, d, _⟩ := hG
        rw [z] at b3
        exact other (.inr (.inr ⟨es, n, d⟩)) (Option.some.inj (b3.symm.trans e))
      · rw [z] at b3
        exact other (.inr (.inl rfl)) (Option.some.inj (b3.symm.trans at_))
    · intro z
      obtain ⟨o, es, n, e, d, _⟩ := hG
      rw [z] at e
      exact (dict d).2 (Option.some.inj (e.symm.trans at_))
  have isH : HOk P w H s.heap := by
    intro b u hu
    rcases endH_cases hu with ⟨rfl, _, rfl⟩ | ⟨hb, rfl⟩
    · exact ⟨ha, by rw [List.length_map]; exact hl, vs, _, rel, ha⟩
    · exact (tabs hb).1
  have sq : SqL K H a (ns.map V.int) := by
    cases hk : K.lookup a with
    | none => exact .inl (.inr ⟨_, endH_script hk⟩)
    | some o =>
      obtain rfl : rowL vs = o := Option.some.inj (ha.symm.trans (KX a o hk))
      exact .inr ⟨_, vs.toArray, _, hk, rfl, rfl, rfl, by rw [List.size_toArray, len]; exact hl, by simpa using rel⟩
  have tbl : ∀ p ∈ cs, H p.2 = some (.tbl #[]) := fun p hp => endH_tb (List.mem_map.mpr ⟨p, hp, rfl⟩) (aT (List.mem_map.mpr ⟨p, hp, rfl⟩))
  have env : Env0 P w K mg (hidT s.heap H) callerA [] s H := ⟨rfl, M, fun b o e => of_hidT e, Nat.le_of_eq (hidT_size _ _), trivial, fun b z => absurd (show b ∈ ([] : List Addr) from z) List.not_mem_nil, isH, .of_eq hgen⟩
  have go := (F _ KB (names hG) TB).run callerA rfl [] s H ⟨[.ref a], []⟩ [.ref a] [.ref a] (fun v _ => v = .bl true) (fun _ _ _ => False) hr env (hbind s (.ref a)) (.cons rfl .nil) (hsp H tbl sq)
  refine codeAny_mono go ?_
  intro r s' h
  match r, h with
  | .error e, h => exact (hCX H e s' h).elim
  | .ok (.ret u), ⟨v, H', os, bare, un, hok, ru, hv⟩ =>
    obtain rfl : v = .bl true := hv
    obtain rfl : u = Value.bool true := ru
    have stay : ∀ b o, b ∉ cs.map (·.2) → s.heap.get? b = some o → s'.heap.get? b = some o := by
      intro b o nb e
      cases q : H b with
      | none => exact un.keep b o e q (fun z => absurd (show b ∈ ([] : List Addr) from z) List.not_mem_nil) List.not_mem_nil
      | some u =>
        rcases endH_cases q with ⟨rfl, _, rfl⟩ | ⟨hb, _⟩
        · rw [← Option.some.inj (ha.symm.trans e)]
          exact (hok b _ (un.frzs b _ _ q)).1
        · exact absurd hb nb
    have grow : ∀ p ∈ cs, ∃ more : Array Value, s'.heap.get? p.2 = some { cls := .none, data := .fields more } := by
      intro p hp
      obtain ⟨more, z⟩ := un.tbls p.2 #[] (tbl p hp)
      exact ⟨_, hok p.2 _ z⟩
    refine ⟨rfl, ⟨?_, ?_⟩, os, bare⟩
    · intro b o e
      by_cases hb : b ∈ cs.map (·.2)
      · obtain ⟨p, hp, rfl⟩ := List.mem_map.mp hb
        obtain ⟨more, hm⟩ := grow p hp
        obtain rfl : emptyT = o := Option.some.inj ((hT p hp).symm.trans e)
        exact .inr (.inl ⟨((C p hp).tab (hT p hp)).isCodeTable, rfl, #[], more, rfl, by rw [Array.empty_append]; exact hm⟩)
      · exact .inl (stay b o hb e)
    · intro b o e
      by_cases hb : b ∈ cs.map (·.2)
      · obtain ⟨p, hp, rfl⟩ := List.mem_map.mp hb
        obtain ⟨more, hm⟩ := grow p hp
        exact ⟨_, hm⟩
      · exact ⟨o, stay b o hb e⟩
end
/-- what the law's def must keep, at the head's heap -/
def LawG (l : PySem.W.OpenLaw) (w : World) (K : PySem.W.Frag) (k n : Nat) (x : Str) (mg : Str → Option Value) (fa : Addr) (h : Heap) : Prop :=
  ∃ (fd : FuncData) (cs : List (Addr × Addr)) (sp : Sp), (∀ p ∈ cs, h.get? p.2 = some emptyT) ∧ (∀ p ∈ cs, K.lookup p.2 = none) ∧ (∀ p ∈ cs, PySem.W.CodeHd h p.1 p.2) ∧ (∀ (s : Shared) (u : Value), BindsTo s fd ⟨[u], []⟩ [(x, u)]) ∧
    (∀ (H : Hp) (a : Addr) (ns : List Int), ns.length ≤ n → (∀ p ∈ cs, H p.2 = some (.tbl #[])) → SqL K H a (ns.map V.int) → sp [.ref a] H (fun v _ => v = .bl true) fun _ _ _ => False) ∧
    ∀ base : Heap, K.In base → base.Ns mainGlobals mg → (∀ p ∈ cs, TabB base mg p.1 p.2) → FnG l.prog w K mg base (L2.CX l.prog w) k fa fd [x] sp
theorem walk_G {l : PySem.W.OpenLaw} {n k : Nat} {q : Program} {loose : List Str} {XP : (Str → Option Value) → Heap → Prop} {YP : World → Heap → Prop} {d : DefRec} {x : Str} (hn : l.most = some n) (hn2 : n ≤ sizeLine) (hdf : d.params.defaults = []) (hr : Room k callerA)
    (F : ∀ (w : World) (mg : Str → Option Value) (fa : Addr) (h : Heap), YP w h → h.Ns mainGlobals mg → mg d.name = some (.ref fa) → ∃ K : PySem.W.Frag, K.In h ∧ LawG l w K k n x mg fa h) :
    PySem.W.WalkO q loose XP YP l.row.toRowW d [] (fun f vs => PySem.call f vs) := by
  refine Att.attach_callB hn hdf fun w s₀ s₁ mg mb fa o pm cd doc a vs ns G Y _ _ _ hmg hobj hints hlen _ hgen => ?_
  obtain ⟨K, KX, fd, cs, sp, g1, g2, g3, g4, g5, g6⟩ := F w mg fa _ Y G.T.g hmg
  refine law_callG KX G.T.g G.T.b G.T.builtins G.T.nolimit hgen g1 g2 g3 G.T.bmain hobj hints (Nat.le_trans hlen hn2) hr g6 g4 (fun H => g5 H a ns hlen) fun H e s' h => ?_
  obtain ⟨_, _, _, _, _, _, _, _, _, _, _, _, z⟩ := h
  exact z
end Tre
set_option maxHeartbeats 2000000
/-! TreX: the facts of a row, as Bools over the written part. -/
namespace Tre
open PySem PySem.Spec PyProof.Rows L2 LamX NdefX

theorem and2 {a b : Bool} (h : (a && b) = true) : a = true ∧ b = true := Bool.and_eq_true_iff.mp h
/-! ### parameters without defaults -/
theorem zip_there {n : Str} : ∀ {ps : List Str} {us : List Value}, us.length = ps.length → n ∈ ps → ((ps.zip us).lookup n).isNone = false
  | p :: ps, u :: us, hl, h => by
    rw [List.zip_cons_cons, List.lookup_cons]
    by_cases e : n = p
    · subst e
      rw [beq_self_eq_true]
      rfl
    · rw [beq_false_of_ne e]
      exact zip_there (by simpa using hl) ((List.mem_cons.mp h).resolve_left e)
theorem no_missing {ps : List Str} {us : List Value} (hl : us.length = ps.length) : (ps.filter fun n => ((ps.zip us).lookup n).isNone) = [] :=
  List.filter_eq_nil_iff.mpr fun n hn => by rw [zip_there hl hn]; exact Bool.false_ne_true
theorem zip_kept : ∀ {ps : List Str} {us : List Value} {l : List (Str × Value)}, us.length = ps.length → ps.Nodup → (∀ n ∈ ps, l.lookup n = (ps.zip us).lookup n) → (ps.filterMap fun n => (l.lookup n).map fun v => (n, v)) = ps.zip us
  | [], [], _, _, _, _ => rfl
  | p :: ps, u :: us, l, hl, hd, h => by
    have h0 := h p List.mem_cons_self
    rw [List.zip_cons_cons, List.lookup_cons, beq_self_eq_true] at h0
    rw [List.filterMap_cons, h0]
    show (p, u) :: _ = _
    rw [List.zip_cons_cons]
    refine congrArg ((p, u) :: ·) (zip_kept (by simpa using hl) (List.nodup_cons.mp hd).2 fun n hn => ?_)
    have h1 := h n (List.mem_cons_of_mem _ hn)
    rw [List.zip_cons_cons, List.lookup_cons, beq_false_of_ne (fun z => (List.nodup_cons.mp hd).1 (by rw [← z]; exact hn))] at h1
    exact h1
theorem bind_args {n1 n2 : Str} {as : List PySem.Arg} {n4 : FuncBody} {n5 : Scope} {n6 : Addr} {n7 : List (Str × Addr)} {n9 n10 n11 : Value} {n12 : Option Addr} {n13 n14 : Value} {n15 : Addr} {us : List Value} (hl : us.length = (as.map (·.arg)).length) (hd : (as.map (·.arg)).Nodup) :
    bindArgs ⟨n1, n2, ⟨[], as, none, [], [], none, []⟩, n4, n5, n6, n7, .none, n9, n10, n11, n12, n13, n14, n15⟩ ⟨us, []⟩ = pure ((as.map (·.arg)).zip us) := by
  have hm := no_missing hl
  have h1 : List.take as.length (as.map (·.arg)) = as.map (·.arg) := List.take_of_length_le (by rw [List.length_map]; exact Nat.le_refl _)
  have hk := zip_kept (l := (as.map (·.arg)).zip us) hl hd fun _ _ => rfl
  unfold bindArgs
  simp only [List.map_nil, List.nil_append]
  have e : (seqItems? Value.none : Sem (Option (Array Value))) = pure none := rfl
  rw [e]
  simp [hl]
  rw [if_neg (by simp only [List.drop_nil, List.length_nil, Nat.sub_zero, List.length_map, h1, hm]; simp)]
  rw [List.filterMap_map] at hk
  rw [hk]
def plainA (a : Arguments) : Bool := a.posonlyargs.isEmpty && a.vararg.isNone && a.kwonlyargs.isEmpty && a.kw_defaults.isEmpty && a.kwarg.isNone && a.defaults.isEmpty && decide (a.args.map (·.arg)).Nodup
def psOf (a : Arguments) : List Str := a.args.map (·.arg)
theorem plainA_eq {a : Arguments} (h : plainA a = true) : a = ⟨[], a.args, none, [], [], none, []⟩ ∧ (psOf a).Nodup := by
  obtain ⟨p1, p2, p3, p4, p5, p6, p7⟩ := a
  unfold plainA at h
  simp only [Bool.and_eq_true, List.isEmpty_iff, Option.isNone_iff_eq_none, decide_eq_true_eq] at h
  obtain ⟨⟨⟨⟨⟨⟨rfl, rfl⟩, rfl⟩, rfl⟩, rfl⟩, rfl⟩, h⟩ := h
  exact ⟨rfl, h⟩
theorem bind_plain {fd : FuncData} (h : plainA fd.params = true) (hd : fd.defaults = .none) {us : List Value} (hl : us.length = (psOf fd.params).length) : bindArgs fd ⟨us, []⟩ = pure ((psOf fd.params).zip us) := by
  obtain ⟨e, nd⟩ := plainA_eq h
  obtain ⟨n1, n2, a, n4, n5, n6, n7, n8, n9, n10, n11, n12, n13, n14, n15⟩ := fd
  obtain rfl : n8 = .none := hd
  have e : a = ⟨[], a.args, none, [], [], none, []⟩ := e
  have nd : (psOf a).Nodup := nd
  have hl : us.length = (psOf a).length := hl
  show bindArgs ⟨n1, n2, a, n4, n5, n6, n7, .none, n9, n10, n11, n12, n13, n14, n15⟩ ⟨us, []⟩ = pure ((psOf a).zip us)
  rw [e] at hl nd ⊢
  exact bind_args hl nd
theorem binds_plain {K : PySem.W.Frag} {x qual : Str} {params : Arguments} {body : List Stmt} {scope : Scope} {f : Addr} {fd : FuncData} (F : FunD K x qual params body scope [] [] f fd) (h : plainA params = true) : Binds K fd (psOf params) [] :=
  F.bindsN fun kV doc pm an cdv ct us hl => bind_plain (fd := PySem.W.fnOf x qual params body scope .none kV doc pm an cdv ct) h rfl hl

/-! ### constants -/
mutual
def rpB (K : PySem.W.Frag) : D → Value → Bool
  | .none, .none => true
  | .bool b, .bool c => b == c
  | .int i, .int j _ => decide (i = j)
  | .str x, .str y _ => decide (x = y) && decide (x.length ≤ sizeLine) && PyData.strOk x
  | .tuple ds, .ref a => (match K.lookup a with
    | some ⟨.type c, _, .seq its _, _⟩ => decide (c = "tuple") && decide (its.size ≤ sizeLine) && rpBA K ds its.toList
    | _ => false)
  | _, _ => false
def rpBA (K : PySem.W.Frag) : List D → List Value → Bool
  | [], [] => true
  | d :: ds, v :: vs => rpB K d v && rpBA K ds vs
  | _, _ => false
end
mutual
theorem rpB_ok {K : PySem.W.Frag} : ∀ {d : D} {u : Value}, rpB K d u = true → ∃ v, RelV v u ∧ Rp K (fun _ => none) v d
  | .none, u, h => by
    cases u <;> first | exact ⟨.non, rfl, .non⟩ | cases h
  | .bool b, u, h => by
    cases u with
    | bool c =>
      have h : (b == c) = true := h
      obtain rfl := eq_of_beq h
      exact ⟨.bl b, rfl, .bl b⟩
    | _ => cases h
  | .int i, u, h => by
    cases u with
    | int j t =>
      obtain rfl : i = j := of_decide_eq_true h
      exact ⟨.int i, ⟨t, rfl⟩, .int i⟩
    | _ => cases h
  | .str x, u, h => by
    cases u with
    | str y t =>
      have h : (decide (x = y) && decide (x.length ≤ sizeLine) && PyData.strOk x) = true := h
      obtain ⟨h1, h3⟩ := and2 h
      obtain ⟨h1, h2⟩ := and2 h1
      obtain rfl : x = y := of_decide_eq_true h1
      exact ⟨.str x, ⟨t, rfl⟩, .str x (of_decide_eq_true h2) h3⟩
    | _ => cases h
  | .tuple ds, u, h => by
    cases u with
    | ref a =>
      unfold rpB at h
      cases q : K.lookup a with
      | none => rw [q] at h; cases h
      | some o =>
        obtain ⟨oc, od, dt, osl⟩ := o
        rw [q] at h
        cases oc with
        | type c =>
          cases dt with
          | seq its n =>
            have h : (decide (c = "tuple") && decide (its.size ≤ sizeLine) && rpBA K ds its.toList) = true := h
            obtain ⟨h1, h3⟩ := and2 h
            obtain ⟨h1, h2⟩ := and2 h1
            obtain ⟨vs, r1, r2⟩ := rpBA_ok h3
            exact ⟨.ref a, rfl, .tup (.inr ⟨_, its, n, q, congrArg Value.type (of_decide_eq_true h1), rfl, of_decide_eq_true h2, r1⟩) r2⟩
          | _ => cases h
        | _ => cases dt <;> cases h
    | _ => cases h
  | .list ds, u, h => by cases u <;> cases h
  | .dict ds, u, h => by cases u <;> cases h
theorem rpBA_ok {K : PySem.W.Frag} : ∀ {ds : List D} {us : List Value}, rpBA K ds us = true → ∃ vs, Vals vs us ∧ RpA K (fun _ => none) vs ds
  | [], [], _ => ⟨[], .nil, .nil⟩
  | [], _ :: _, h => by cases h
  | _ :: _, [], h => by cases h
  | d :: ds, u :: us, h => by
    have h : (rpB K d u && rpBA K ds us) = true := h
    obtain ⟨h1, h2⟩ := and2 h
    obtain ⟨v, r1, r2⟩ := rpB_ok h1
    obtain ⟨vs, r3, r4⟩ := rpBA_ok h2
    exact ⟨v :: vs, .cons r1 r3, .cons r2 r4⟩
end
/-- the module's name x holds d -/
def cnB (K : PySem.W.Frag) (x : Str) (d : D) : Bool := match PySem.W.nsIn K mainGlobals x with
  | some (some u) => rpB K d u
  | _ => false
theorem cnB_ok {K : PySem.W.Frag} {h : Heap} {mg : Str → Option Value} {x : Str} {d : D} (X : K.In h) (G : h.Ns mainGlobals mg) (e : cnB K x d = true) : ∃ u v, mg x = some u ∧ RelV v u ∧ Rp K (fun _ => none) v d := by
  unfold cnB at e
  cases q : PySem.W.nsIn K mainGlobals x with
  | none => rw [q] at e; cases e
  | some o =>
    rw [q] at e
    cases o with
    | none => cases e
    | some u =>
      obtain ⟨v, r1, r2⟩ := rpB_ok (show rpB K d u = true from e)
      exact ⟨u, v, PySem.W.mg_of X G q, r1, r2⟩

/-! ### own exceptions -/
def oexB (K : PySem.W.Frag) (C : Addr) : Bool := (match K.lookup C with
  | some ⟨.type t, _, .cls cd, sl⟩ => decide (t = "type") && (match cd.mro, sl.toList with
    | .ref C' :: bm, [_, _, _, _, some (.builtin n), _] => decide (C' = C) && decide (n = "ValueError.__new__") && !cd.hasDel && cd.hasDict && PySem.HandSPX.refsVE bm
    | _, _ => false)
  | _ => false) && decide (PySem.W.findIn K (.ref C) "__setattr__" = some (some (.builtin "object.__setattr__"))) && decide (PySem.W.subIn K (.ref C) (.type "BaseException") = some true) && decide (PySem.W.typeIn K (.ref C) = some (.type "type")) && PySem.W.keepIn K (.ref C)
theorem oexB_ok {K : PySem.W.Frag} {C : Addr} (h : oexB K C = true) : OexC K C := by
  unfold oexB at h
  obtain ⟨h, h5⟩ := and2 h
  obtain ⟨h, h4⟩ := and2 h
  obtain ⟨h, h3⟩ := and2 h
  obtain ⟨h, h2⟩ := and2 h
  refine ⟨?_, of_decide_eq_true h2, of_decide_eq_true h3, of_decide_eq_true h4, h5⟩
  split at h
  · rename_i t dd cd sl ho
    obtain ⟨ht, h⟩ := and2 h
    obtain rfl : t = "type" := of_decide_eq_true ht
    split at h
    · rename_i C' bm k0 k1 k2 k3 n k5 hm hs
      simp only [Bool.and_eq_true, decide_eq_true_eq, Bool.not_eq_true'] at h
      have h := h.2
      have hr := h.2
      have hdi := h.1.2
      have hdel := h.1.1.2
      have q1 := h.1.1.1.1
      have q2 := h.1.1.1.2
      subst q1
      subst q2
      obtain ⟨nm, bs, mro, ns, qn, hd, sn, sub, ab, col, del⟩ := cd
      dsimp only at hm hdel hdi
      subst hm hdel hdi
      have hsl : sl = #[k0, k1, k2, k3, some (.builtin "ValueError.__new__"), k5] := by
        obtain ⟨l⟩ := sl
        simp only at hs
        rw [hs]
      subst hsl
      exact ⟨_, _, _, _, bm, _, _, _, _, _, _, _, _, _, _, ho, hr⟩
    · cases h
  · cases h
/-- super().__init__(all of ps); self.p = p .. -/
def initB (N : List Str) (names : List Str) : List Stmt → Bool
  | .Expr (.Call (.Attribute (.Call (.Name s _) [] [] _) i p2) (e0 :: es0) [] p3) _ :: rest => decide (s = "super") && decide (i = "__init__") && (p2.endLine == p3.line) && (e0 :: es0).all (fun e => !isStar e) && decide ((e0 :: es0).length < 30)
    && bArgs N (e0 :: es0) ((List.range names.length).map (· + 1)) && bStores N "self" rest ((names.zip (List.range names.length)).map fun p => (p.1, p.2 + 1))
  | _ => false
def supN (names : List Str) : List Str := ("self" : Str) :: (names ++ [("__class__" : Str)])
def fileB (K : PySem.W.Frag) (file : Str) (c : Addr) : Bool := match K.lookup c with
  | some ⟨_, _, .fields vs, _⟩ => (match (vs[2]? : Option Value) with
    | some (.str f _) => (file == f)
    | _ => false)
  | _ => false
def cellB (K : PySem.W.Frag) (C cc : Addr) : Bool := match K.lookup cc with
  | some ⟨_, _, .cell (some (.ref C')), _⟩ => decide (C' = C)
  | _ => false
def fdB (K : PySem.W.Frag) (file : Str) (C : Addr) (names : List Str) (fd : FuncData) : Bool := match fd with
  | ⟨_, q, a, .stmts b, sc, g, [(cn, cc)], .none, .none, _, _, none, .ref c, _, bl⟩ => decide (g = mainGlobals) && decide (bl = builtinsNs) && decide (cn = "__class__") && PySem.W.codeIn K (.ref c) q && fileB K file c && cellB K C cc && plainA a && decide (psOf a = ("self" : Str) :: names)
    && nscB (supN names) (("self" : Str) :: names) ["__class__"] sc && decide (sc.names.lookup ("super" : Str) = some .globalImplicit) && initB (supN names) names b
  | _ => false
def supB (K : PySem.W.Frag) (file x : Str) (names : List Str) : Bool :=
  (match K.lookup (He.ma K (He.ga K x) "__init__") with
  | some ⟨_, _, .func fd, _⟩ => fdB K file (He.ga K x) names fd
  | _ => false) && oexB K (He.ga K x) && decide (PySem.W.ks_superIn K (He.ga K x) (He.ga K x) "__init__" = some (some (.builtin "ValueError.__init__"))) && decide (PySem.W.subIn K (.ref (He.ga K x)) (.type "ValueError") = some true)
  && decide (PySem.W.mroIn K (He.ga K x) (.ref (He.ga K x)) = some true) && decide (PySem.W.nsIn K PySem.cStatics "thirdparty.any" = some none) && decide (PySem.W.nsIn K mainGlobals "super" = some none)
  && decide (PySem.W.findIn K (.ref (He.ga K x)) "__init__" = some (some (.ref (He.ma K (He.ga K x) "__init__")))) && decide (PySem.W.typeIn K (.ref (He.ma K (He.ga K x) "__init__")) = some (.type "function"))
  && names.all (fun f => decide (PySem.W.findIn K (.ref (He.ga K x)) f = some none)) && decide (PySem.W.nsIn K mainGlobals x = some (some (.ref (He.ga K x)))) && !names.isEmpty && decide (names.length ≤ 900)
theorem sup_call {o : Expr} {m : Str} {p2 p3 : Pos} {es : List Expr} {env : PySem.Env} (hl : (p2.endLine == p3.line) = true) (hs : es.all (fun e => !isStar e) = true) (hn : es.length < 30) : eval (.Call (.Attribute o m p2) es [] p3) env = (do
      let ov ← attributeBase o m env (eval o env)
      standAt p2.atName
      let (g, first) ← holding [ov] (getMethod ov m (plainOf o env))
      callWith p3 g first (backTo p3 (starEach es env)) []) := by
  have hf : ∀ n, n < 29 + 1 → methodCallForm n (backTo p3 (starEach es env)) [] = true := fun n h => by
    unfold methodCallForm
    have h1 : (backTo p3 (starEach es env)).all (!·.1) = true := by
      have := plain_of (pos := p3) (env := env) hs
      rw [List.all_eq_not_any_not]
      simpa using this
    rw [h1]
    simpa using h
  have e : ∀ ov, methodCall o m p2 p3 env ov (es.length + 0) (backTo p3 (starEach es env)) [] = (do
      let (g, first) ← holding [ov] (getMethod ov m (plainOf o env))
      callWith p3 g first (backTo p3 (starEach es env)) []) := fun ov => mcall_line (hf _ hn) hl
  show (do
    let ov ← attributeBase o m env (eval o env)
    standAt p2.atName
    methodCall o m p2 p3 env ov (es.length + 0) (backTo p3 (starEach es env)) []) = _
  simp only [e]
theorem sup_xc {C0 : Cf} {X : Cx} {W : WX} {c : Nat} {x : Str} {names : List Str} {file : Str} (h : supB X.K file x names = true) (hfile : ((X.prog.main.file : Str) == file) = true) (htop : (X.prog.main.scope.names.lookup ("super" : Str)).isSome = false) (hX : C0.Xn c = some (He.ga X.K x, names.reverse))
    (gm : X.mg x = some (.ref (He.ga X.K x))) (hdb : (x == ("__debug__" : Str)) = false) (hcalm : X.calm = true) (hr : Room 3 X.A) (tk : Takes X W) : XcOk C0 X c x names.length := by
  unfold supB at h
  simp only [Bool.and_eq_true, decide_eq_true_eq, Bool.not_eq_true', List.isEmpty_eq_false_iff] at h
  obtain ⟨⟨⟨⟨⟨⟨⟨⟨⟨⟨⟨⟨h1, h2⟩, h3⟩, h4⟩, h5⟩, h6⟩, h7⟩, h8⟩, h9⟩, h10⟩, h11⟩, h12⟩, h13⟩ := h
  split at h1
  case h_2 => cases h1
  rename_i oc od fd osl lk
  unfold fdB at h1
  split at h1
  case h_2 => cases h1
  rename_i nm q a b sc g cn cc doc pm c0 ct bl
  simp only [Bool.and_eq_true, decide_eq_true_eq] at h1
  obtain ⟨⟨⟨⟨⟨⟨⟨⟨⟨⟨rfl, rfl⟩, rfl⟩, k4⟩, k5⟩, k6⟩, k7⟩, k8⟩, k9⟩, k10⟩, k11⟩ := h1
  unfold initB at k11
  split at k11
  case h_2 => cases k11
  rename_i s p0 p1 i p2 e0 es0 p3 p4 rest
  simp only [Bool.and_eq_true, decide_eq_true_eq] at k11
  obtain ⟨⟨⟨⟨⟨⟨rfl, rfl⟩, m3⟩, m4⟩, m5⟩, m6⟩, m7⟩ := k11
  have S := nscope_by k9
  have hf : ∃ (ccl : Value) (cdd : Option Addr) (vs : Array Value) (ccs : Array (Option Value)) (f2 : Str) (tf : Tok), X.K.lookup c0 = some ⟨ccl, cdd, .fields vs, ccs⟩ ∧ vs[2]? = some (.str f2 tf) ∧ ((X.prog.main.file : Str) == f2) = true := by
    unfold fileB at k5
    split at k5
    · rename_i ccl cdd vs ccs e1
      split at k5
      · rename_i f2 tf e2
        refine ⟨_, _, vs, _, f2, tf, e1, e2, ?_⟩
        rw [← eq_of_beq k5]; exact hfile
      · cases k5
    · cases k5
  have hc : ∃ (cl : Value) (cld : Option Addr) (csl : Array (Option Value)), X.K.lookup cc = some ⟨cl, cld, .cell (some (.ref (He.ga X.K x))), csl⟩ := by
    unfold cellB at k6
    split at k6
    · rename_i cl cld C' csl e1
      obtain rfl := of_decide_eq_true k6
      exact ⟨_, _, _, e1⟩
    · cases k6
  obtain ⟨ea, _⟩ := plainA_eq k7
  have ha : a.args.map (·.arg) = ("self" : Str) :: names := k8
  have T : SupK X.K X.prog (He.ga X.K x) (He.ma X.K (He.ga X.K x) "__init__") ⟨nm, q, a, .Expr (.Call (.Attribute (.Call (.Name "super" p0) [] [] p1) "__init__" p2) (e0 :: es0) [] p3) p4 :: rest, sc, [("__class__", cc)], c0⟩ cc "self" (("self" : Str) :: names) :=
    ⟨⟨oc, od, doc, pm, ct, osl, lk⟩, rfl, k4, hf, hc, oexB_ok h2, h3, h4, h5, h6, htop, h7, by
      show ∃ ar, (a.posonlyargs ++ a.args).head? = some ar ∧ ar.arg = "self"
      rw [ea]
      match q : a.args, ha with
      | ar :: r, ha => exact ⟨ar, rfl, by simpa using (List.cons.inj ha).1⟩, ⟨names, rfl⟩, k10⟩
  have hN0 : (supN names)[0]? = some ("self" : Str) := rfl
  have hrg : ∀ i ∈ (List.range names.length).map (· + 1), i < (("self" : Str) :: names).length := fun i hi => by
    obtain ⟨j, hj, rfl⟩ := List.mem_map.mp hi
    have := List.mem_range.mp hj
    rw [List.length_cons]; omega
  refine xc_of (C0 := C0) (X := X) (W := W) (c := c) (x := x) (la := (List.range names.length).map (· + 1)) (l := (names.zip (List.range names.length)).map fun p => (p.1, p.2 + 1)) T S rfl m4 ⟨fun L => plainOf _ _, fun L => sup_call m3 m4 m5⟩ m6 m7 rfl rfl hrg (by rw [List.length_map, List.length_range]; omega) h12 h13 hN0 (fun i y hy => ?_) (by decide) (by decide) (fun p hp => ?_) hX gm hdb h8 h9 (fun doc pm ct => .all fun us hl => ?_) hcalm hr tk
  · rcases List.mem_append.mp (show y ∈ (("self" : Str) :: names) ++ [("__class__" : Str)] from List.mem_of_getElem? hy) with z | z
    · exact .inl (S.par y z)
    · exact .inr (.inr (S.frk y z))
  · obtain ⟨q, hq, rfl⟩ := List.mem_map.mp hp
    have := List.all_eq_true.mp h10 q.1 (List.of_mem_zip hq).1
    exact of_decide_eq_true this
  · have := bind_plain (fd := NF.fd ⟨nm, q, a, .Expr (.Call (.Attribute (.Call (.Name "super" p0) [] [] p1) "__init__" p2) (e0 :: es0) [] p3) p4 :: rest, sc, [("__class__", cc)], c0⟩ doc pm ct) k7 rfl (us := us) (by show us.length = (psOf a).length; rw [k8]; exact hl)
    have e3 : psOf a = ("self" : Str) :: names := k8
    rw [← e3]
    exact this
end Tre
set_option maxHeartbeats 2000000
/-! TreY: a row's law from its data. -/
namespace Tre
open PySem PySem.Spec PyProof.Rows L2 LamX NdefX

/-- a def of the program that has a tree: its name, its text, its slots -/
structure Dd where
  x : Str
  st : Stmt
  N : List Str
def okDd (fns cns : List Str) (xcs : List (Str × Nat)) (d : Dd) : Fn → Bool
  | .prim _ => false
  | .body ar n b => C8.scC d.N (psOf (defArgs d.st)) (defScope d.st) && decide (d.N.length = n) && decide ((psOf (defArgs d.st)).length = ar) && decide (ar ≤ n) && plainA (defArgs d.st) && chkSs d.N fns cns [] xcs (defScope d.st) b (defBody d.st)
def okAll (fns cns : List Str) (xcs : List (Str × Nat)) : List Dd → List Fn → Bool
  | [], [] => true
  | d :: ds, f :: fs => okDd fns cns xcs d f && okAll fns cns xcs ds fs
  | _, _ => false
theorem okAll_at {fns cns : List Str} {xcs : List (Str × Nat)} : ∀ {ds : List Dd} {P : List Fn}, okAll fns cns xcs ds P = true → ∀ (i : Nat) (d : Dd), ds[i]? = some d → ∃ f, P[i]? = some f ∧ okDd fns cns xcs d f = true
  | [], [], _, i, d, e => by simp at e
  | [], _ :: _, h, _, _, _ => by cases h
  | _ :: _, [], h, _, _, _ => by cases h
  | d0 :: ds, f :: fs, h, 0, d, e => by
    have h : (okDd fns cns xcs d0 f && okAll fns cns xcs ds fs) = true := h
    obtain rfl : d0 = d := by simpa using e
    exact ⟨f, rfl, (and2 h).1⟩
  | d0 :: ds, f :: fs, h, i + 1, d, e => by
    have h : (okDd fns cns xcs d0 f && okAll fns cns xcs ds fs) = true := h
    obtain ⟨g, h1, h2⟩ := okAll_at (and2 h).2 i d (by simpa using e)
    exact ⟨g, by simpa using h1, h2⟩

section
variable {prog : Program} {w : World} {K : PySem.W.Frag} {mg : Str → Option Value} {base : Heap}
def cnsOf (cons : List (Str × D)) : List Str := cons.map (·.1)
def gOf (cons : List (Str × D)) : Nat → Option D := fun i => (cons[i]?).map (·.2)
def xcsOf (xcl : List (Str × List Str)) : List (Str × Nat) := xcl.map fun p => (p.1, p.2.length)
def xnOf (K : PySem.W.Frag) (xcl : List (Str × List Str)) : XT := fun c => (xcl[c]?).map fun p => (He.ga K p.1, p.2.reverse)
theorem prog_of {P : List Fn} {ts : List (Addr × Str)} {cons : List (Str × D)} {xcl : List (Str × List Str)} {ds : List Dd} {h : Heap} (KX : K.In h) (G0 : h.Ns mainGlobals mg) (hfree : ∀ x ∈ bltNames, mg x = none) (hcon : ∀ p ∈ cons, cnB K p.1 p.2 = true)
    (hdef : ∀ d ∈ ds, mg d.x = some (.ref (He.ga K d.x)) ∧ ∃ fd, FunD K d.x d.x (defArgs d.st) (defBody d.st) (defScope d.st) [] [] (He.ga K d.x) fd) (hok : okAll (ds.map (·.x)) (cnsOf cons) (xcsOf xcl) ds P = true)
    (hsup : ∀ p ∈ xcl, supB K prog.main.file p.1 p.2 = true ∧ mg p.1 = some (.ref (He.ga K p.1)) ∧ (p.1 == ("__debug__" : Str)) = false) (htop : (prog.main.scope.names.lookup ("super" : Str)).isSome = false) :
    ProgOk P (gOf cons) (ds.map (·.x)) (cnsOf cons) (xcsOf xcl) ts (xnOf K xcl) prog w K mg base where
  blt := hfree
  cn := fun i x d h1 h2 => by
    unfold cnsOf at h1
    unfold gOf at h2
    rw [List.getElem?_map] at h1
    obtain ⟨p, e1, rfl⟩ := Option.map_eq_some_iff.mp h1
    rw [e1] at h2
    obtain rfl : p.2 = d := by simpa using h2
    exact cnB_ok KX G0 (hcon p (List.mem_of_getElem? e1))
  fn := fun f x h1 => by
    rw [List.getElem?_map] at h1
    obtain ⟨d, e1, rfl⟩ := Option.map_eq_some_iff.mp h1
    obtain ⟨g1, fd, F⟩ := hdef d (List.mem_of_getElem? e1)
    obtain ⟨g, e2, ok⟩ := okAll_at hok f d e1
    cases g with
    | prim g => cases ok
    | body ar n b =>
      unfold okDd at ok
      simp only [Bool.and_eq_true, decide_eq_true_eq] at ok
      obtain ⟨⟨⟨⟨⟨k1, k2⟩, k3⟩, k4⟩, k5⟩, k6⟩ := ok
      refine ⟨_, fd, psOf (defArgs d.st), g1, F.kp, binds_plain F k5, ?_⟩
      unfold DefOk
      rw [e2]
      exact ⟨d.x, d.x, _, _, _, d.N, F, C8.fnScope_by k1, k2, k3, k4, k6⟩
  xc := fun c x ar h1 Φ X W e1 e2 e3 e4 e5 hcalm hr tk => by
    unfold xcsOf at h1
    rw [List.getElem?_map] at h1
    obtain ⟨p, q1, q2⟩ := Option.map_eq_some_iff.mp h1
    obtain ⟨rfl, rfl⟩ := Prod.mk.inj q2
    obtain ⟨k1, k2, k3⟩ := hsup p (List.mem_of_getElem? q1)
    subst e1 e3 e4
    exact sup_xc (file := X.prog.main.file) k1 (beq_self_eq_true _) htop (by show (xnOf X.K xcl) c = _; unfold xnOf; rw [q1]; rfl) k2 k3 hcalm hr tk

/-- a def that catches -/
structure Td where
  x : Str
  st : Stmt
  c : Nat
  a : Str
  e : Str
  n : Str
  okS : Str
  badS : Str
  fld : Str
  j : Nat
  j2 : Nat
  k1 : Nat
  k2 : Nat
  p : Nat → Pos
structure TdFit (xcl : List (Str × List Str)) (t : Td) : Prop where
  body : defBody t.st = raisedBody t.a t.e t.n t.okS t.badS t.fld t.j t.j2 t.k1 t.k2 t.p
  ps : psOf (defArgs t.st) = [t.a]
  pl : plainA (defArgs t.st) = true
  sc : C8.scC [t.a, t.n] [t.a] (defScope t.st) = true
  ln : (defScope t.st).names.lookup t.n = some .local
  la : (defScope t.st).names.lookup t.a = some .local
  ge : (defScope t.st).names.lookup t.e = some .globalImplicit
  xc : xcl[t.c]? = some (t.e, [t.fld])
  d1 : (t.x == ("__debug__" : Str)) = false
  d2 : (t.a == ("__debug__" : Str)) = false
  d3 : (t.a == ("__classdict__" : Str)) = false
  d4 : (t.n == ("__debug__" : Str)) = false
  d5 : (t.n == ("__classdict__" : Str)) = false
  d6 : (t.e == ("__debug__" : Str)) = false
def tdsOf (tdl : List Td) : List (Str × Nat × Str × Str) := tdl.map fun t => (t.x, t.c, t.okS, t.badS)
/-- what is asked of K of a class that is caught -/
def catB (K : PySem.W.Frag) (e fld : Str) : Bool := xfB K (He.ga K e) && decide (PySem.W.exmOne K (.ref (He.ga K e)) (.ref (He.ga K e)) = some true) && decide (PySem.W.findIn K (.ref (He.ga K e)) fld = some none)
def lamQ (sc : Scope) : Str := (envOfC "law" sc 0 0 .none).qual ++ "<lambda>"
/-- A ROW'S LAW -/
theorem lawG_of {l : PySem.W.OpenLaw} {h : Heap} {fa : Addr} {kP n : Nat} {P : List Fn} {cons : List (Str × D)} {xcl : List (Str × List Str)} {ds : List Dd} {tdl : List Td} {stS stL : Stmt} {N : List Str} {bL : T} {p0 p1 p2 p3 p4 : Pos} {cs : Scope} {pS : Nat → Pos} {rest : List Stmt}
    (KX : K.In h) (G0 : h.Ns mainGlobals mg) (hmg : mg "law" = some (.ref fa)) (hn : n ≤ sizeLine)
    (hfree : ∀ x ∈ bltNames, mg x = none) (hcon : ∀ p ∈ cons, cnB K p.1 p.2 = true)
    (hdef : ∀ d ∈ ds, mg d.x = some (.ref (He.ga K d.x)) ∧ ∃ fd, FunD K d.x d.x (defArgs d.st) (defBody d.st) (defScope d.st) [] [] (He.ga K d.x) fd) (hok : okAll (ds.map (·.x)) (cnsOf cons) (xcsOf xcl) ds P = true)
    (hsup : ∀ p ∈ xcl, supB K l.prog.main.file p.1 p.2 = true ∧ mg p.1 = some (.ref (He.ga K p.1)) ∧ (p.1 == ("__debug__" : Str)) = false) (htop : (l.prog.main.scope.names.lookup ("super" : Str)).isSome = false)
    -- the source
    (gS : mg "_law_source" = some (.ref (He.ga K "_law_source"))) (FS : ∃ fd, FunD K "_law_source" "_law_source" (defArgs stS) (defBody stS) (defScope stS) [] [] (He.ga K "_law_source") fd) (eS : defBody stS = srcBody cs pS) (scS : C8.scC srcN ["script"] (defScope stS) = true) (plS : plainA (defArgs stS) = true) (psS : psOf (defArgs stS) = [("script" : Str)]) (bS : srcB (defScope stS) cs = true)
    -- the law
    (FL : ∃ fd, FunD K "law" "law" (defArgs stL) (defBody stL) (defScope stL) [] [] fa fd) (eL : defBody stL = .Assign [.Name "source" p0] (.Call (.Name "_law_source" p1) [.Name "script" p2] [] p3) p4 :: rest) (scL : C8.scC N ["script"] (defScope stL) = true) (plL : plainA (defArgs stL) = true) (psL : psOf (defArgs stL) = [("script" : Str)])
    (n0 : N[0]? = some ("script" : Str)) (n1 : N[1]? = some ("source" : Str)) (sL : (defScope stL).names.lookup ("source" : Str) = some .local ∨ (defScope stL).names.lookup ("source" : Str) = some .cell) (gL : (defScope stL).names.lookup ("_law_source" : Str) = some .globalImplicit)
    (hc : chkSs N (ds.map (·.x)) (cnsOf cons) (tdsOf tdl) (xcsOf xcl) (defScope stL) bL rest = true)
    -- what catches
    (hfit : ∀ t ∈ tdl, TdFit xcl t) (htd : ∀ t ∈ tdl, mg t.x = some (.ref (He.ga K t.x)) ∧ (∃ fd, FunD K t.x t.x (defArgs t.st) (defBody t.st) (defScope t.st) [] [] (He.ga K t.x) fd) ∧ catB K t.e t.fld = true)
    (tf : List He.Defn) (htf : (tdl = [] ∧ tf = []) ∨ tf = [(("law" : Str), none)]) (hfa : fa = He.ga K "law") (hd : ∀ p ∈ tf, PySem.W.codeHdIn K (He.cT K p).1 (He.cT K p).2 = true) (out : ∀ p ∈ tf, K.lookup (He.cT K p).2 = none) (empty : ∀ p ∈ tf, h.get? (He.cT K p).2 = some emptyT)
    (plain : ∀ s : Src, ∃ o s', evS (Phi P (gOf cons) kP) (gOf cons) bL (lawE N.length) s = .ok (.ret o (.bool true)) s') :
    LawG l w K (kP + 6) n "script" mg fa h := by
  obtain ⟨fdL, FL⟩ := FL
  obtain ⟨fdS, FS⟩ := FS
  have hbS := binds_plain FS plS
  rw [psS] at hbS
  have bA : ∀ (s : Shared) (u : Value), BindsTo s fdL ⟨[u], []⟩ [(("script" : Str), u)] := fun s u => by
    have := FL.bindsA (ps := psOf (defArgs stL)) (fun kV doc pm an cdv ct us hl => bind_plain (fd := PySem.W.fnOf "law" "law" (defArgs stL) (defBody stL) (defScope stL) .none kV doc pm an cdv ct) plL rfl hl) s [u] (by rw [psL]; rfl)
    rw [psL] at this
    exact this
  let ts : List (Addr × Str) := tf.map fun p => ((He.cT K p).2, lamQ (defScope stL))
  refine ⟨fdL, tf.map (He.cT K), spLaw ts K, fun p hp => ?_, fun p hp => ?_, fun p hp => ?_, bA, fun H a ns hl hT hS => ⟨a, ns, rfl, hS, Nat.le_trans hl hn, fun q hq => ?_, fun _ => rfl⟩, fun base KB G1 TB => ?_⟩
  · obtain ⟨q, hq, rfl⟩ := List.mem_map.mp hp
    exact empty q hq
  · obtain ⟨q, hq, rfl⟩ := List.mem_map.mp hp
    exact out q hq
  · obtain ⟨q, hq, rfl⟩ := List.mem_map.mp hp
    exact PySem.W.codeHd_of_K KX (hd q hq)
  · obtain ⟨p, hp, rfl⟩ := List.mem_map.mp hq
    exact TabS.nil (hT _ (List.mem_map.mpr ⟨p, hp, rfl⟩))
  · have pr := prog_of (prog := l.prog) (w := w) (base := base) (P := P) (ts := ts) KB G1 hfree hcon hdef hok hsup htop
    rw [eS] at FS
    rw [eL] at FL
    refine law_ok (kP := kP) (tds := tdsOf tdl) pr FL (C8.fnScope_by scL) n0 n1 sL gL ⟨_, fdS, gS, FS.kp, hbS, fun k => src_ok FS (C8.fnScope_by scS) bS (hfree _ (by decide)) (hfree _ (by decide))⟩ hc (fun A outer s H E cdv hcd hcode hA hr x c okS badS hm => ?_) plain
    obtain ⟨t, ht, e⟩ := List.mem_map.mp hm
    obtain ⟨rfl, rfl, rfl, rfl⟩ : t.x = x ∧ t.c = c ∧ t.okS = okS ∧ t.badS = badS := by
      obtain ⟨h1, h2⟩ := Prod.mk.inj e
      obtain ⟨h2, h3⟩ := Prod.mk.inj h2
      obtain ⟨h3, h4⟩ := Prod.mk.inj h3
      exact ⟨h1, h2, h3, h4⟩
    have tfe : tf = [(("law" : Str), none)] := by
      rcases htf with ⟨z, _⟩ | z
      · rw [z] at ht; cases ht
      · exact z
    have fit := hfit t ht
    obtain ⟨g1, ⟨fdt, Ft⟩, cat⟩ := htd t ht
    have hbt := binds_plain Ft fit.pl
    rw [fit.ps] at hbt
    rw [fit.body] at Ft
    unfold catB at cat
    simp only [Bool.and_eq_true, decide_eq_true_eq] at cat
    obtain ⟨⟨c1, c2⟩, c3⟩ := cat
    obtain ⟨oc, od, dV, kV, doc, pm, an, ct, osl, lk⟩ := hcd
    obtain ⟨cA, rfl⟩ := He.codeIn_ref hcode
    have eC : He.codeOf K ("law", none) = cA := by
      subst hfa
      exact He.codeOf_eq (K := K) (p := ("law", none)) lk rfl
    have memT : (("law", none) : He.Defn) ∈ tf := by rw [tfe]; exact List.mem_singleton_self _
    have tb := TB (He.cT K ("law", none)) (List.mem_map.mpr ⟨_, memT, rfl⟩)
    have eP : (He.cT K ("law", none)).1 = cA := eC
    rw [eP] at tb
    have gE := (hsup (t.e, [t.fld]) (List.mem_of_getElem? fit.xc)).2.1
    refine td_of (X := cxOf (L2.CX l.prog w) l.prog w K mg base N "law" (defScope stL) fa (.ref cA) A outer s H E) (CS := He.ga K t.e) (P := (He.cT K ("law", none)).2) hA hr g1 Ft hbt (C8.fnScope_by fit.sc) rfl fit.ln fit.la fit.ge gE (xfB_ok c1) c3 c2 ?_ tb rfl ?_ ?_ fit.d1 fit.d2 fit.d3 fit.d4 fit.d5 fit.d6
    · show (xnOf K xcl) t.c = _
      unfold xnOf
      rw [fit.xc]
      rfl
    · exact List.mem_map.mpr ⟨("law", none), memT, rfl⟩
    · intro q hq _
      obtain ⟨p, hp, rfl⟩ := List.mem_map.mp (show q ∈ tf.map _ from hq)
      rfl
end
end Tre
set_option maxHeartbeats 2000000
/-! TreK: the head's facts, the statics of the machine among them. -/
namespace Tre
open PySem PySem.Spec PyProof.Rows L2

/-- where the facts are looked for -/
def asS (g : Addr → Option Obj) (n : Nat) : List Addr := PySem.cStatics :: He.asD g n
def obsS (n : Nat) (fa : List He.Fa) (fn : List He.DefD) (tf : List He.Defn) (ex : PySem.W.Frag → Bool) (g : Addr → Option Obj) : He.AlX :=
  let K := He.frT g (asS g n)
  (He.obsT fa fn [] K, ex K && He.tabsB g tf K)
theorem says_of {n : Nat} {fa : List He.Fa} {fn : List He.DefD} {tf : List He.Defn} {ex : PySem.W.Frag → Bool} {w : World} {h : Heap} (e : obsS n fa fn tf ex h.get? = He.valX fn [] w) : He.SaysX fa fn [] tf ex w h (He.frT h.get? (asS h.get? n)) := by
  obtain ⟨e1, e2⟩ := Prod.mk.inj e
  obtain ⟨hm, ht⟩ := Bool.and_eq_true_iff.mp e2
  unfold He.tabsB at ht
  rw [List.all_eq_true] at ht
  have one : ∀ p ∈ tf, PySem.W.codeHdIn (He.frT h.get? (asS h.get? n)) (He.cT (He.frT h.get? (asS h.get? n)) p).1 (He.cT (He.frT h.get? (asS h.get? n)) p).2 = true ∧ ∃ o, h.get? (He.cT (He.frT h.get? (asS h.get? n)) p).2 = some o ∧ He.emptyTab o = true := by
    intro p hp
    obtain ⟨a, b⟩ := Bool.and_eq_true_iff.mp (ht p hp)
    refine ⟨a, ?_⟩
    split at b
    · exact ⟨_, by assumption, b⟩
    · cases b
  constructor
  · exact e1
  · exact hm
  · exact fun p hp => (one p hp).1
  · intro p hp
    obtain ⟨_, o, q, z⟩ := one p hp
    exact He.frT_none q z
  · intro p hp
    obtain ⟨_, o, q, z⟩ := one p hp
    exact q.trans (congrArg some (He.emptyTab_eq z))
def hookS (n : Nat) (fa : List He.Fa) (fn : List He.DefD) (tf : List He.Defn) (ex : PySem.W.Frag → Bool) : PySem.W.Hook where
  α := He.AlX
  obs := fun s => obsS n fa fn tf ex s.heap.get?
  val := fun w => He.valX fn [] w
  says := fun w h => ∃ K : PySem.W.Frag, K.In h ∧ He.SaysX fa fn [] tf ex w h K
  of := fun _ _ e => ⟨_, He.frT_in, says_of e⟩
  keeps := fun _ _ _ ⟨K, hK, c⟩ k => ⟨K, hK.keeps k, { c with empty := fun p hp => k _ _ (c.empty p hp) }⟩
theorem obsS_eq {n : Nat} {fa : List He.Fa} {fn : List He.DefD} {tf : List He.Defn} {ex : PySem.W.Frag → Bool} {g : Addr → Option Obj} {s : Shared} (h : ∀ a, g a = s.heap.get? a) : obsS n fa fn tf ex g = (hookS n fa fn tf ex).obs s := by
  obtain rfl : g = s.heap.get? := funext h
  rfl
end Tre
set_option maxHeartbeats 1000000
/-! TreP: laws of the evaluator, for plain laws. -/
namespace Tre
open PySem PySem.Spec PyProof.Rows L2

section
variable {c : Env → Src → R D} {b : Env → Src → R Fl} {z : List Nat}
theorem whN_succ : ∀ (n : Nat) (env : Env) (s : Src) (r : R Fl), whN c b z n env s = some r → whN c b z (n + 1) env s = some r
  | 0, _, _, _, h => by cases h
  | n + 1, env, s, r, h => by
    unfold whN at h ⊢
    cases hc : c (fzE env z) s with
    | ok d s1 =>
      rw [hc] at h
      simp only at h ⊢
      by_cases ht : truth d = true
      · rw [if_pos ht] at h ⊢
        cases hb : b (fzE env z) s1 with
        | ok fl s2 =>
          rw [hb] at h
          cases fl with
          | next env' => exact whN_succ n env' s2 r h
          | cnt env' => exact whN_succ n env' s2 r h
          | brk env' => exact h
          | ret o d => exact h
        | exc k a s2 => rw [hb] at h; exact h
        | stuck => rw [hb] at h; exact h
      · rw [if_neg ht] at h ⊢; exact h
    | exc k a s1 => rw [hc] at h; exact h
    | stuck => rw [hc] at h; exact h
theorem whN_le {n m : Nat} {env : Env} {s : Src} {r : R Fl} (h : whN c b z n env s = some r) (l : n ≤ m) : whN c b z m env s = some r := by
  induction l with
  | refl => exact h
  | step _ ih => exact whN_succ _ _ _ _ ih
theorem whR_of {n : Nat} {env : Env} {s : Src} {r : R Fl} (h : whN c b z n env s = some r) : whR c b z env s = r := by
  have e : ∃ r n, whN c b z n env s = some r := ⟨r, n, h⟩
  unfold whR
  rw [dif_pos e]
  obtain ⟨m, hm⟩ := e.choose_spec
  have h1 := whN_le h (Nat.le_max_left n m)
  have h2 := whN_le hm (Nat.le_max_right n m)
  exact Option.some.inj (h2.symm.trans h1)
theorem whR_end {env : Env} {s s1 : Src} {d : D} (hc : c (fzE env z) s = .ok d s1) (ht : truth d = false) : whR c b z env s = .ok (.next (fzE env z)) s1 := by
  refine whR_of (n := 1) ?_
  unfold whN
  rw [hc]
  simp only [ht]
  rfl
theorem whR_out {env : Env} {s s1 s2 : Src} {d : D} {k : Nat} {a : List D} (hc : c (fzE env z) s = .ok d s1) (ht : truth d = true) (hb : b (fzE env z) s1 = .exc k a s2) : whR c b z env s = .exc k a s2 := by
  refine whR_of (n := 1) ?_
  unfold whN
  rw [hc]
  simp only [ht, if_true]
  rw [hb]
theorem whR_next {env env' : Env} {s s1 s2 : Src} {d : D} (hc : c (fzE env z) s = .ok d s1) (ht : truth d = true) (hb : b (fzE env z) s1 = .ok (.next env') s2) : whR c b z env s = whR c b z env' s2 := by
  have e : ∀ n, whN c b z (n + 1) env s = whN c b z n env' s2 := fun n => by
    conv => lhs; unfold whN
    rw [hc]
    simp only [ht, if_true]
    rw [hb]
  by_cases h : ∃ r n, whN c b z n env' s2 = some r
  · obtain ⟨r, n, h⟩ := h
    rw [whR_of h, whR_of ((e n).trans h)]
  · have h2 : ¬ ∃ r n, whN c b z n env s = some r := fun ⟨r, n, q⟩ => by
      cases n with
      | zero => cases q
      | succ n => exact h ⟨r, n, (e n).symm.trans q⟩
    unfold whR
    rw [dif_neg h, dif_neg h2]
end
section
variable {f : D → Src → R (Option D)}
theorem compL_map {g : D → D} {s : Src} : ∀ {xs : List D}, (∀ x ∈ xs, f x s = .ok (some (g x)) s) → compL f xs s = .ok (xs.map g) s
  | [], _ => rfl
  | x :: xs, h => by
    unfold compL
    rw [h x List.mem_cons_self, R.bind_ok, compL_map fun y hy => h y (List.mem_cons_of_mem _ hy)]
    rfl
theorem compL_filter {p : D → Bool} {s : Src} : ∀ {xs : List D}, (∀ x ∈ xs, f x s = .ok (if p x then some x else none) s) → compL f xs s = .ok (xs.filter p) s
  | [], _ => rfl
  | x :: xs, h => by
    unfold compL
    rw [h x List.mem_cons_self, R.bind_ok, compL_filter fun y hy => h y (List.mem_cons_of_mem _ hy), R.bind_ok]
    cases hp : p x
    · rw [List.filter_cons_of_neg (by rw [hp]; exact Bool.false_ne_true)]; rfl
    · rw [List.filter_cons_of_pos hp]; rfl
theorem compL_inv {Q : D → Prop} : ∀ {xs : List D} {s : Src}, (∀ x ∈ xs, ∀ s, ∃ y s', f x s = .ok (some y) s' ∧ Q y) → ∃ ys s', compL f xs s = .ok ys s' ∧ ys.length = xs.length ∧ ∀ y ∈ ys, Q y
  | [], s, _ => ⟨[], s, rfl, rfl, fun y hy => absurd hy (by simp)⟩
  | x :: xs, s, h => by
    obtain ⟨y, s1, e1, q⟩ := h x List.mem_cons_self s
    obtain ⟨ys, s2, e2, l, qs⟩ := compL_inv (xs := xs) (s := s1) fun z hz => h z (List.mem_cons_of_mem _ hz)
    refine ⟨y :: ys, s2, ?_, by rw [List.length_cons, List.length_cons, l], fun z hz => ?_⟩
    · unfold compL
      rw [e1, R.bind_ok, e2]
      rfl
    · rcases List.mem_cons.mp hz with rfl | hz
      · exact q
      · exact qs z hz
end
theorem forL_inv {f : D → Env → Src → R Fl} {I : Nat → Env → Prop} : ∀ {xs : List D} {i : Nat} {env : Env} {s : Src}, (∀ i x env s, x ∈ xs → I i env → ∃ env' s', f x env s = .ok (.next env') s' ∧ I (i + 1) env') → I i env →
    ∃ env' s', forL f xs env s = .ok (.next env') s' ∧ I (i + xs.length) env'
  | [], i, env, s, _, h => ⟨env, s, rfl, h⟩
  | x :: xs, i, env, s, hf, h => by
    obtain ⟨env1, s1, e1, h1⟩ := hf i x env s List.mem_cons_self h
    obtain ⟨env2, s2, e2, h2⟩ := forL_inv (xs := xs) (i := i + 1) (env := env1) (s := s1) (fun i y env s hy => hf i y env s (List.mem_cons_of_mem _ hy)) h1
    refine ⟨env2, s2, ?_, by rw [List.length_cons, Nat.add_comm xs.length, ← Nat.add_assoc]; exact h2⟩
    unfold forL
    rw [e1]
    exact e2
section
variable {Φ : Nat → List Arg → Src → R (Bool × D)} {Gg : Nat → Option D}
theorem seq_next {a r : T} {env env' : Env} {s s' : Src} (h : evS Φ Gg a env s = .ok (.next env') s') : evS Φ Gg (.seq a r) env s = evS Φ Gg r env' s' := by
  simp only [evS]; rw [h]; rfl
theorem seq_ret {a r : T} {env : Env} {s s' : Src} {o : Bool} {d : D} (h : evS Φ Gg a env s = .ok (.ret o d) s') : evS Φ Gg (.seq a r) env s = .ok (.ret o d) s' := by
  simp only [evS]; rw [h]; rfl
theorem seq_cnt {a r : T} {env env' : Env} {s s' : Src} (h : evS Φ Gg a env s = .ok (.cnt env') s') : evS Φ Gg (.seq a r) env s = .ok (.cnt env') s' := by
  simp only [evS]; rw [h]; rfl
theorem seq_exc {a r : T} {env : Env} {s s' : Src} {c : Nat} {d : List D} (h : evS Φ Gg a env s = .exc c d s') : evS Φ Gg (.seq a r) env s = .exc c d s' := by
  simp only [evS]; rw [h]; rfl
theorem ifs_t {c a b : T} {env : Env} {s s' : Src} {x : Kd × D} (h : evE Φ Gg c env s = .ok x s') (ht : truth x.2 = true) : evS Φ Gg (.ifs c a b) env s = evS Φ Gg a env s' := by
  simp only [evS]; rw [h, R.bind_ok, if_pos ht]
theorem ifs_f {c a b : T} {env : Env} {s s' : Src} {x : Kd × D} (h : evE Φ Gg c env s = .ok x s') (ht : truth x.2 = false) : evS Φ Gg (.ifs c a b) env s = evS Φ Gg b env s' := by
  simp only [evS]; rw [h, R.bind_ok, if_neg (by rw [ht]; exact Bool.false_ne_true)]
end
/-! ### _law_pick, one text in all laws -/
def pickT : T := (.seq (.wh [] (.and (.cmp .Gt (.v 1) (.c (.int 1))) (.and (.cmp .Lt (.srcG 0 0) (.c (.int 2))) (.cmp .Gt (.srcL 0) (.c (.int 0))))) (.seq (.srcP 0) .nil)) (.seq (.asg (.v 2) (.srcG 0 0)) (.seq (.ifs (.or (.cmp .Lt (.v 1) (.c (.int 2))) (.cmp .Gt (.v 2) (.c (.int 1)))) (.seq (.srcS 0 0 (.op .FloorDiv (.v 2) (.bi .max (.cons (.c (.int 1)) (.cons (.v 1) .nil))))) (.seq (.ret (.op .Mod (.bi .int (.cons (.v 2) .nil)) (.bi .max (.cons (.c (.int 1)) (.cons (.v 1) .nil))))) .nil)) .nil) (.seq (.srcS 2 0 (.op .Add (.srcG 2 0) (.c (.int 1)))) (.seq (.asg (.v 3) (.op .Mod (.bi .int (.cons (.op .Add (.srcG 1 0) (.op .Mult (.srcG 2 0) (.c (.int 104729)))) .nil)) (.c (.int 998244353)))) (.seq (.asg (.v 3) (.op .Mod (.bi .int (.cons (.op .Add (.op .Mult (.v 3) (.v 3)) (.op .Mult (.srcG 2 0) (.c (.int 17)))) .nil)) (.c (.int 2147483647)))) (.seq (.srcS 1 0 (.v 3)) (.seq (.ret (.op .Mod (.bi .int (.cons (.op .FloorDiv (.v 3) (.c (.int 16))) .nil)) (.v 1))) .nil))))))))
def pkC : T := (.and (.cmp .Gt (.v 1) (.c (.int 1))) (.and (.cmp .Lt (.srcG 0 0) (.c (.int 2))) (.cmp .Gt (.srcL 0) (.c (.int 0)))))
theorem pick_loop {Φ : Nat → List Arg → Src → R (Bool × D)} {Gg : Nat → Option D} (m : Int) : ∀ (n : Nat) (s : Src), s.cells.length ≤ n → ∃ s', evS Φ Gg (.wh [] pkC (.seq (.srcP 0) .nil)) [.src, .d false (.int m), .e, .e] s = .ok (.next [.src, .d false (.int m), .e, .e]) s' := by
  intro n
  induction n with
  | zero =>
    intro s hs
    refine ⟨s, ?_⟩
    have e : s.cells = [] := List.eq_nil_of_length_eq_zero (by omega)
    simp only [evS]
    refine whR_end (d := .bool false) ?_ rfl
    unfold pkC fzE
    by_cases h1 : 1 < m
    · by_cases h2 : s.left < 2
      · simp [evE, cmpF, i2F, truth, Src.get, R.of, h1, h2, e]
      · simp [evE, cmpF, i2F, truth, Src.get, R.of, h1, h2, e]
    · simp [evE, cmpF, i2F, truth, Src.get, R.of, h1, e]
  | succ n ih =>
    intro s hs
    by_cases h : 1 < m ∧ s.left < 2 ∧ s.cells ≠ []
    · obtain ⟨h1, h2, h3⟩ := h
      obtain ⟨s', e⟩ := ih { s with cells := s.cells.dropLast, left := s.cells.getLast h3 } (by simp; omega)
      refine ⟨s', ?_⟩
      rw [← e]
      simp only [evS]
      have hl : 0 < s.cells.length := List.length_pos_iff.mpr h3
      refine whR_next (d := .bool true) (s1 := s) ?_ rfl ?_
      · unfold pkC fzE
        simp [evE, cmpF, i2F, truth, Src.get, R.of, h1, h2, hl]
      · simp [fzE, List.getLast?_eq_some_getLast h3]
    · refine ⟨s, ?_⟩
      simp only [evS]
      refine whR_end (d := .bool false) ?_ rfl
      unfold pkC fzE
      by_cases h1 : 1 < m
      · by_cases h2 : s.left < 2
        · have h3 : s.cells = [] := Classical.byContradiction fun z => h ⟨h1, h2, z⟩
          simp [evE, cmpF, i2F, truth, Src.get, R.of, h1, h2, h3]
        · simp [evE, cmpF, i2F, truth, Src.get, R.of, h1, h2]
      · simp [evE, cmpF, i2F, truth, Src.get, R.of, h1]
theorem pick_gen {Φ : Nat → List Arg → Src → R (Bool × D)} {Gg : Nat → Option D} (s : Src) (m : Int) (h1 : 1 ≤ m) (h2 : m < 1073741824) : ∃ i s', endF (evS Φ Gg pickT [.src, .d false (.int m), .e, .e] s) = .ok (false, .int i) s' ∧ 0 ≤ i ∧ i < m := by
  unfold pickT
  obtain ⟨s1, e1⟩ := pick_loop (Φ := Φ) (Gg := Gg) m s.cells.length s (Nat.le_refl _)
  unfold pkC at e1
  rw [seq_next e1]
  rw [seq_next (env' := [.src, .d false (.int m), .d false (.int s1.left), .e]) (s' := s1) (by simp [evS, evE, R.of, bindT, putE, Src.get])]
  have hm : (if m > 1 then m else 1) = m := by split <;> omega
  by_cases hc : m < 2 ∨ 1 < s1.left
  · rw [seq_ret (o := false) (d := .int (s1.left % m)) (s' := s1.put 0 (s1.left / m))]
    · exact ⟨_, _, rfl, Int.emod_nonneg _ (by omega), Int.emod_lt_of_pos _ (by omega)⟩
    · rw [ifs_t (x := (.frz, .bool true)) (s' := s1) ?_ rfl]
      · simp [evS, evE, evA, biF, opF, R.of, hm, h2, show 0 < m by omega]
      · rcases hc with hc | hc
        · simp [evE, cmpF, i2F, truth, R.of, hc]
        · by_cases hc2 : m < 2
          · simp [evE, cmpF, i2F, truth, R.of, hc2]
          · simp [evE, cmpF, i2F, truth, R.of, hc, hc2]
  · have g1 : ¬ m < 2 := fun z => hc (.inl z)
    have g2 : ¬ 1 < s1.left := fun z => hc (.inr z)
    rw [seq_next (env' := [.src, .d false (.int m), .d false (.int s1.left), .e]) (s' := s1)]
    · have q1 : ∀ x : Int, cmulB x 104729 = true := fun x => by unfold cmulB; simp
      have q2 : ∀ x : Int, cmulB x 17 = true := fun x => by unfold cmulB; simp
      have q3 : ∀ x : Int, cmulB (x % 998244353) (x % 998244353) = true := fun x => by
        unfold cmulB
        have a1 := Int.emod_nonneg x (show (998244353 : Int) ≠ 0 by decide)
        have a2 := Int.emod_lt_of_pos x (show (0 : Int) < 998244353 by decide)
        simp only [Bool.or_eq_true, Bool.and_eq_true, decide_eq_true_eq]
        left
        constructor <;> omega
      have q0 : 0 < m := by omega
      simp [evS, evE, evA, R.of, Src.get, Src.put, opF, biF, bindT, putE, q0, q1, q2, q3]
      exact ⟨_, ⟨_, rfl⟩, Int.emod_nonneg _ (by omega), Int.emod_lt_of_pos _ q0⟩
    · rw [ifs_f (x := (.frz, .bool false)) (s' := s1) ?_ rfl]
      · rfl
      · simp [evE, cmpF, i2F, truth, R.of, g1, g2]
end Tre
set_option maxHeartbeats 1000000
/-! TreQ: texts and small values for plain laws. -/
namespace Tre
open PySem PySem.Spec PyProof.Rows L2 _root_.SX

abbrev tl (x : Str) : List Nat := x.cps.toList
theorem tl_len (x : Str) : x.length = (tl x).length := rfl
theorem tl_S (l : List Nat) : tl (S l) = l := rfl
theorem tl_app (a b : Str) : tl (a ++ b) = tl a ++ tl b := Array.toList_append
theorem app_S (a b : List Nat) : (S a ++ S b : Str) = S (a ++ b) := S_cat a b
theorem eqF_str (a b : Str) : eqF (.str a) (.str b) = some (a == b) := by simp [eqF, PyData.depth, PyData.eqv]
theorem eqF_int (a b : Int) : eqF (.int a) (.int b) = some (a == b) := by simp [eqF, PyData.depth, PyData.eqv]
theorem in1 (z : Str) (c : Nat) : inF (.str (S [c])) (.str z) = some (decide (c ∈ tl z)) := congrArg some (StrLaws.found_one z c)
theorem atI_nat {α : Type} (xs : List α) (n : Nat) : atI xs (n : Int) = xs[n]? := by
  unfold atI ixN
  rw [if_pos (by omega)]
  by_cases h : n < xs.length
  · rw [if_pos (by omega)]
    simp
  · rw [if_neg (by omega), List.getElem?_eq_none (by omega)]
    rfl
theorem sub_S (x : Str) (n : Nat) : subF (.str x) (.int n) = ((tl x)[n]?).map fun c => .str (S [c]) := by
  show (atI (tl x) (n : Int)).map _ = _
  rw [atI_nat]
theorem cut_S (x : Str) {p q : Nat} (h : q ≤ x.length) (hp : p ≤ q) : cutS x (some (p : Int)) (some (q : Int)) = S (((tl x).drop p).take (q - p)) := by
  unfold cutS
  rw [HT.sIx_nat, HT.sIx_nat, Nat.min_eq_left h, Nat.min_eq_left (by omega)]
theorem opF_str (a b : Str) : opF .Add (.str a) (.str b) = if a.length + b.length ≤ sizeLine then some (.frz, .str (a ++ b)) else none := rfl
theorem inF_tup (x : D) (ds : List D) : inF x (.tuple ds) = if Nat.min (PyData.depthAll ds) x.depth ≤ 64 then some (ds.any fun z => PyData.eqv z x) else none := rfl
theorem inF_lst (x : D) (ds : List D) : inF x (.list ds) = if Nat.min (PyData.depthAll ds) x.depth ≤ 64 then some (ds.any fun z => PyData.eqv z x) else none := rfl
theorem opF_lst (a b : List D) : opF .Add (.list a) (.list b) = if a.length + b.length ≤ sizeLine then some (.own, .list (a ++ b)) else none := rfl
theorem opF_mul (a b : Int) (h : cmulB a b = true) : opF .Mult (.int a) (.int b) = some (.frz, .int (a * b)) := by
  show (if cmulB a b = true then _ else _) = _
  rw [if_pos h]
theorem opF_div (a b : Int) (h : 0 < b) (h2 : b < 1073741824) : opF .FloorDiv (.int a) (.int b) = some (.frz, .int (a / b)) := by
  show (if 0 < b ∧ b < 1073741824 then _ else _) = _
  rw [if_pos ⟨h, h2⟩]
theorem opF_rep (xs : List D) (k : Int) (h : 2 ≤ k ∧ k ≤ 1000 ∧ xs.length ≤ 1000 ∧ xs.isEmpty = false) : opF .Mult (.tuple xs) (.int k) = some (.frz, .tuple (List.replicate k.toNat xs).flatten) := if_pos h
theorem sizeL : sizeLine = 16777216 := rfl
/-! ### pick, of -/
def ofT (pk : Nat) : T := (.seq (.ret (.sub (.v 1) (.call pk (.csrc 0 (.cons (.bi .len (.cons (.v 1) .nil)) .nil))))) .nil)
abbrev Picks (f : List Arg → Src → R (Bool × D)) : Prop := ∀ (s : Src) (m : Int), 1 ≤ m → m < 1073741824 → ∃ i s', f [.src, .d (.int m)] s = .ok (false, .int i) s' ∧ 0 ≤ i ∧ i < m
abbrev Ofs (f : List Arg → Src → R (Bool × D)) : Prop := ∀ (s : Src) (xs : List D), xs ≠ [] → xs.length < 1073741824 → ∃ x s', f [.src, .d (.list xs)] s = .ok (false, x) s' ∧ x ∈ xs
theorem of_gen {Φ : Nat → List Arg → Src → R (Bool × D)} {Gg : Nat → Option D} {pk : Nat} (hp : Picks (Φ pk)) (s : Src) (xs : List D) (h0 : xs ≠ []) (hl : xs.length < 1073741824) : ∃ x s', endF (evS Φ Gg (ofT pk) [.src, .d false (.list xs)] s) = .ok (false, x) s' ∧ x ∈ xs := by
  have h1 : 0 < xs.length := List.length_pos_iff.mpr h0
  obtain ⟨i, s', e, i0, i1⟩ := hp s xs.length (by omega) (by omega)
  obtain ⟨n, rfl⟩ := Int.eq_ofNat_of_zero_le i0
  have hn : n < xs.length := by omega
  refine ⟨xs[n], s', ?_, List.getElem_mem hn⟩
  have e2 : subF (.list xs) (.int (n : Nat)) = some xs[n] := by
    show atI xs (n : Int) = _
    rw [atI_nat, List.getElem?_eq_getElem hn]
  simp [ofT, evS, evE, evG, evA, biF, R.of, e, e2]
  rfl
/-! ### small values -/
mutual
/-- what may be shown: no dict, no great number -/
def sml : D → Bool
  | .none => true
  | .bool _ => true
  | .int i => decide (i.natAbs < 10 ^ 12)
  | .str x => PyData.strOk x
  | .list xs => smlA xs
  | .tuple xs => smlA xs
  | .dict _ => false
def smlA : List D → Bool
  | [] => true
  | x :: xs => sml x && smlA xs
end
theorem smlA_iff : ∀ {xs : List D}, smlA xs = true ↔ ∀ x ∈ xs, sml x = true
  | [] => by simp [smlA]
  | x :: xs => by simp [smlA, smlA_iff (xs := xs)]
mutual
theorem sml_lay : ∀ {d : D}, sml d = true → d.canLay0 = true
  | .none, _ => rfl
  | .bool _, _ => rfl
  | .int _, _ => rfl
  | .str x, h => by simpa [sml, PyData.canLay0] using h
  | .list xs, h => by simpa [PyData.canLay0] using smlA_lay (by simpa [sml] using h)
  | .tuple xs, h => by simpa [PyData.canLay0] using smlA_lay (by simpa [sml] using h)
  | .dict _, h => by cases h
theorem smlA_lay : ∀ {ds : List D}, smlA ds = true → PyData.canLayAll0 ds = true
  | [], _ => rfl
  | d :: ds, h => by
    have h : sml d = true ∧ smlA ds = true := by simpa [smlA] using h
    simp [PyData.canLayAll0, sml_lay h.1, smlA_lay h.2]
end
mutual
theorem sml_short : ∀ {d : D}, sml d = true → d.intsShort 13 = true
  | .none, _ => rfl
  | .bool _, _ => rfl
  | .int i, h => by
    have h : i.natAbs < 10 ^ 12 := of_decide_eq_true h
    simpa [PyData.intsShort] using PyData.shown_int_le h
  | .str x, _ => rfl
  | .list xs, h => by simpa [PyData.intsShort] using smlA_short (by simpa [sml] using h)
  | .tuple xs, h => by simpa [PyData.intsShort] using smlA_short (by simpa [sml] using h)
  | .dict _, h => by cases h
theorem smlA_short : ∀ {ds : List D}, smlA ds = true → PyData.intsShortAll 13 ds = true
  | [], _ => rfl
  | d :: ds, h => by
    have h : sml d = true ∧ smlA ds = true := by simpa [smlA] using h
    simp [PyData.intsShortAll, sml_short h.1, smlA_short h.2]
end
mutual
theorem sml_show : ∀ {d : D}, sml d = true → d.showable = true
  | .none, _ => rfl
  | .bool _, _ => rfl
  | .int i, h => by
    have h : i.natAbs < 10 ^ 12 := of_decide_eq_true h
    have : i.natAbs.log2 < 1920 := by
      have h2 : i.natAbs < 2 ^ 40 := Nat.lt_trans h (by decide)
      by_cases h3 : i.natAbs = 0
      · rw [h3]; decide
      · have := (Nat.log2_lt h3).mpr h2
        omega
    simpa [PyData.showable] using this
  | .str x, _ => rfl
  | .list xs, h => by simpa [PyData.showable] using smlA_show (by simpa [sml] using h)
  | .tuple xs, h => by simpa [PyData.showable] using smlA_show (by simpa [sml] using h)
  | .dict _, h => by cases h
theorem smlA_show : ∀ {ds : List D}, smlA ds = true → PyData.showableAll ds = true
  | [], _ => rfl
  | d :: ds, h => by
    have h : sml d = true ∧ smlA ds = true := by simpa [smlA] using h
    simp [PyData.showableAll, sml_show h.1, smlA_show h.2]
end
/-- small: d's depth, its weight -/
structure Sm (k w : Nat) (d : D) : Prop where
  s : sml d = true
  dp : d.depth ≤ k
  wt : d.weight ≤ w
theorem Sm.mono {k w k' w' : Nat} {d : D} (h : Sm k w d) (h1 : k ≤ k') (h2 : w ≤ w') : Sm k' w' d := ⟨h.s, Nat.le_trans h.dp h1, Nat.le_trans h.wt h2⟩
theorem shown_ok {k w : Nat} {d : D} (h : Sm k w d) (hk : k ≤ 64) (hw : w ≤ 1048576) : biF .repr [d] = some (.frz, .str d.shown) := by
  have h1 := sml_show h.s
  have h2 : d.depth ≤ 64 := Nat.le_trans h.dp hk
  have h3 := PyData.hasDict_of_canLay d (sml_lay h.s)
  have h4 : d.shown.length ≤ sizeLine := PyData.shown_fits (B := 13) (by decide) (by decide) (PyData.leavesShort_of_canLay0 13 d (sml_lay h.s) (sml_short h.s)) (by have := h.wt; omega)
  show (if d.showable = true ∧ d.depth ≤ 64 ∧ d.hasDict = false ∧ d.shown.length ≤ sizeLine then some (Kd.frz, PyData.str d.shown) else none) = _
  rw [if_pos ⟨h1, h2, h3, h4⟩]
theorem depthAll_le {k : Nat} : ∀ {xs : List D}, (∀ x ∈ xs, x.depth ≤ k) → PyData.depthAll xs ≤ k
  | [], _ => by simp [PyData.depthAll]
  | x :: xs, h => by
    have h1 := h x List.mem_cons_self
    have h2 := depthAll_le fun y hy => h y (List.mem_cons_of_mem x hy)
    simp only [PyData.depthAll]
    omega
theorem weightAll_le {w : Nat} : ∀ {xs : List D}, (∀ x ∈ xs, x.weight ≤ w) → PyData.weightAll xs ≤ (w + 1) * xs.length
  | [], _ => by simp [PyData.weightAll]
  | x :: xs, h => by
    have h1 := h x List.mem_cons_self
    have h2 := weightAll_le fun y hy => h y (List.mem_cons_of_mem x hy)
    simp only [PyData.weightAll, List.length_cons, Nat.mul_add, Nat.mul_one]
    omega
theorem weightAll_app : ∀ (xs ys : List D), PyData.weightAll (xs ++ ys) = PyData.weightAll xs + PyData.weightAll ys
  | [], ys => by simp [PyData.weightAll]
  | x :: xs, ys => by simp only [List.cons_append, PyData.weightAll, weightAll_app xs ys]; omega
theorem Sm.list {k w n : Nat} {xs : List D} (h : ∀ x ∈ xs, Sm k w x) (hn : xs.length ≤ n) : Sm (k + 1) ((w + 1) * n) (.list xs) :=
  ⟨by simpa [sml] using smlA_iff.mpr fun x hx => (h x hx).s, by simpa [PyData.depth] using depthAll_le fun x hx => (h x hx).dp, by
    have := weightAll_le fun x hx => (h x hx).wt
    have h2 : (w + 1) * xs.length ≤ (w + 1) * n := Nat.mul_le_mul_left _ hn
    simp only [PyData.weight]
    omega⟩
theorem Sm.tuple {k w n : Nat} {xs : List D} (h : ∀ x ∈ xs, Sm k w x) (hn : xs.length ≤ n) : Sm (k + 1) ((w + 1) * n) (.tuple xs) :=
  ⟨by simpa [sml] using smlA_iff.mpr fun x hx => (h x hx).s, by simpa [PyData.depth] using depthAll_le fun x hx => (h x hx).dp, by
    have := weightAll_le fun x hx => (h x hx).wt
    have h2 : (w + 1) * xs.length ≤ (w + 1) * n := Nat.mul_le_mul_left _ hn
    simp only [PyData.weight]
    omega⟩
theorem Sm.int {i : Int} (h : i.natAbs < 1000000000) : Sm 0 30 (.int i) := ⟨by simp [sml]; omega, by simp [PyData.depth], by
  simp only [PyData.weight]
  split
  · omega
  · rename_i hz
    have hz : i.natAbs ≠ 0 := fun z => hz (by simp [Int.natAbs_eq_zero.mp z])
    have := (Nat.log2_lt hz).mpr (show i.natAbs < 2 ^ 30 by omega)
    omega⟩
theorem Sm.str {x : Str} {w : Nat} (h : x.length ≤ w) (h2 : PyData.strOk x = true) : Sm 0 w (.str x) := ⟨by simpa [sml] using h2, by simp [PyData.depth], by simp only [PyData.weight]; exact h⟩
theorem Sm.bool {b : Bool} : Sm 0 0 (.bool b) := ⟨rfl, by simp [PyData.depth], by simp [PyData.weight]⟩
theorem Sm.none : Sm 0 0 .none := ⟨rfl, by simp [PyData.depth], by simp [PyData.weight]⟩
theorem ok_app {a b : Str} (h1 : PyData.strOk a = true) (h2 : PyData.strOk b = true) : PyData.strOk (a ++ b) = true := by
  unfold PyData.strOk at *
  show (a.cps ++ b.cps).all _ = true
  rw [Array.all_append, h1, h2]
  rfl
theorem ok_S {l : List Nat} : PyData.strOk (S l) = l.all (· < 0x110000) := by
  unfold PyData.strOk
  rw [← Array.all_toList]
/-! ### comprehensions -/
theorem compL_fm {f : D → Src → R (Option D)} {p : D → Bool} {g : D → D} {s : Src} : ∀ {xs : List D}, (∀ x ∈ xs, f x s = .ok (if p x then some (g x) else none) s) → compL f xs s = .ok ((xs.filter p).map g) s
  | [], _ => rfl
  | x :: xs, h => by
    unfold compL
    rw [h x List.mem_cons_self, R.bind_ok, compL_fm fun y hy => h y (List.mem_cons_of_mem _ hy), R.bind_ok]
    cases hp : p x
    · rw [List.filter_cons_of_neg (by rw [hp]; exact Bool.false_ne_true)]; rfl
    · rw [List.filter_cons_of_pos hp]; rfl
section
variable {Φ : Nat → List Arg → Src → R (Bool × D)} {Gg : Nat → Option D}
theorem lc_gen {tg it cond elt : T} {ws : List Nat} {env : Env} {s s1 : Src} {pk : Bool} {xs : List D} {p : D → Bool} {g : D → D} (hi : evI Φ Gg it env s = .ok (pk, xs) s1) (hl : xs.length ≤ sizeLine)
    (h : ∀ x ∈ xs, ∃ env', bindT tg (.frz, x) (klE env ws) = some env' ∧ (∃ kc, evE Φ Gg cond env' s1 = .ok (kc, .bool (p x)) s1) ∧ (p x = true → ∃ ky, ky ≠ Kd.peek ∧ evE Φ Gg elt env' s1 = .ok (ky, g x) s1)) :
    evE Φ Gg (.lc tg it cond elt ws) env s = .ok (.own, .list ((xs.filter p).map g)) s1 := by
  unfold evE
  rw [hi, R.bind_ok, if_pos hl, compL_fm (p := p) (g := g)]
  · rfl
  · intro x hx
    obtain ⟨env', e1, ⟨kc, e2⟩, e3⟩ := h x hx
    rw [e1, R.of_some, R.bind_ok, e2]
    cases hp : p x with
    | false => rfl
    | true =>
      obtain ⟨ky, hk, e4⟩ := e3 hp
      simp [R.calm, truth, e4, hk]
/-- its elements change the source -/
theorem lc_inv {tg it elt : T} {ws : List Nat} {env : Env} {s s1 : Src} {pk : Bool} {xs : List D} {Q : D → Prop} (hi : evI Φ Gg it env s = .ok (pk, xs) s1) (hl : xs.length ≤ sizeLine)
    (h : ∀ x ∈ xs, ∃ env', bindT tg (.frz, x) (klE env ws) = some env' ∧ ∀ s, ∃ ky y s', ky ≠ Kd.peek ∧ evE Φ Gg elt env' s = .ok (ky, y) s' ∧ Q y) :
    ∃ ys s2, evE Φ Gg (.lc tg it (.c (.bool true)) elt ws) env s = .ok (.own, .list ys) s2 ∧ ys.length = xs.length ∧ ∀ y ∈ ys, Q y := by
  obtain ⟨ys, s2, e, l, q⟩ := compL_inv (f := fun x s => (R.of (bindT tg (.frz, x) (klE env ws)) s).bind fun env' s =>
        (evE Φ Gg (.c (.bool true)) env' s).calm.bind fun b s => if truth b.2 then (evE Φ Gg elt env' s).calm.bind fun y s => (if y.1 = .peek then .stuck else .ok (some y.2) s) else .ok none s) (Q := Q) (xs := xs) (s := s1) (fun x hx s => by
    obtain ⟨env', e1, e2⟩ := h x hx
    obtain ⟨ky, y, s', hk, e3, q⟩ := e2 s
    refine ⟨y, s', ?_, q⟩
    rw [e1, R.of_some, R.bind_ok]
    simp [evE, R.calm, truth, e3, hk])
  refine ⟨ys, s2, ?_, l, q⟩
  unfold evE
  rw [hi, R.bind_ok, if_pos hl, e]
  rfl
end
theorem boolsOf_map (g : D → Bool) : ∀ xs : List D, boolsOf (xs.map fun x => .bool (g x)) = some (xs.map g)
  | [] => rfl
  | x :: xs => by
    rw [List.map_cons, boolsOf, boolsOf_map g xs]
    rfl
theorem eqF_nil (ys : List D) : eqF (.list ys) (.list []) = some ys.isEmpty := by
  unfold eqF
  have h : Nat.min (PyData.depth (.list ys)) (PyData.depth (.list [])) ≤ 64 := Nat.le_trans (Nat.min_le_right _ _) (by simp [PyData.depth, PyData.depthAll])
  rw [if_pos h]
  cases ys <;> rfl
/-! ### one step at a time -/
section
variable {Φ : Nat → List Arg → Src → R (Bool × D)} {Gg : Nat → Option D} {a b c : T} {env : Env} {s s1 s2 : Src}
theorem bi1 {f : BI} {x : Kd × D} {z : Kd × D} (h : evE Φ Gg a env s = .ok x s1) (h2 : biF f [x.2] = some z) : evE Φ Gg (.bi f (.cons a .nil)) env s = .ok z s1 := by
  simp only [evE, evA, h, R.bind_ok, List.map_cons, List.map_nil, h2, R.of_some]
theorem ret_e {k : Kd} {d : D} (h : evE Φ Gg a env s = .ok (k, d) s1) (hk : k ≠ .peek := by decide) : evS Φ Gg (.ret a) env s = .ok (.ret (decide (k = .own)) d) s1 := by
  simp only [evS, h, R.bind_ok, if_neg hk]
theorem cmp_e {o : CmpOp} {x y : Kd × D} {z : Bool} (h1 : evE Φ Gg a env s = .ok x s1) (h2 : evE Φ Gg b env s1 = .ok y s2) (h : cmpF o x.2 y.2 = some z) : evE Φ Gg (.cmp o a b) env s = .ok (.frz, .bool z) s2 := by
  simp only [evE, h1, h2, R.bind_ok, h, Option.map_some, R.of_some]
theorem op_e {o : Operator} {x y z : Kd × D} (h1 : evE Φ Gg a env s = .ok x s1) (h2 : evE Φ Gg b env s1 = .ok y s2) (h : opF o x.2 y.2 = some z) : evE Φ Gg (.op o a b) env s = .ok z s2 := by
  simp only [evE, h1, h2, R.bind_ok, h, R.of_some]
theorem not_e {x : Kd × D} (h : evE Φ Gg a env s = .ok x s1) : evE Φ Gg (.not a) env s = .ok (.frz, .bool (!truth x.2)) s1 := by
  simp only [evE, h, R.bind_ok]
theorem and_t {x : Kd × D} (h : evE Φ Gg a env s = .ok x s1) (ht : truth x.2 = true) : evE Φ Gg (.and a b) env s = evE Φ Gg b env s1 := by
  simp only [evE, h, R.bind_ok, if_pos ht]
theorem and_f {x : Kd × D} (h : evE Φ Gg a env s = .ok x s1) (ht : truth x.2 = false) : evE Φ Gg (.and a b) env s = .ok x s1 := by
  simp only [evE, h, R.bind_ok, ht]
  rfl
theorem or_t {x : Kd × D} (h : evE Φ Gg a env s = .ok x s1) (ht : truth x.2 = true) : evE Φ Gg (.or a b) env s = .ok x s1 := by
  simp only [evE, h, R.bind_ok, if_pos ht]
theorem or_f {x : Kd × D} (h : evE Φ Gg a env s = .ok x s1) (ht : truth x.2 = false) : evE Φ Gg (.or a b) env s = evE Φ Gg b env s1 := by
  simp only [evE, h, R.bind_ok, ht]
  rfl
theorem me1 {m : MI} {x y z : Kd × D} (h1 : evE Φ Gg a env s = .ok x s1) (hs : isStrD x.2 = true) (h2 : evE Φ Gg b env s1 = .ok y s2) (h : meF m x.2 [y.2] = some z) : evE Φ Gg (.me m a (.cons b .nil)) env s = .ok z s2 := by
  simp only [evE, evA, h1, h2, R.bind_ok, if_pos hs, List.map_cons, List.map_nil, h, R.of_some]
theorem asg_e {tg : T} {x : Kd × D} {env' : Env} (h : evE Φ Gg a env s = .ok x s1) (h2 : bindT tg x env = some env') : evS Φ Gg (.asg tg a) env s = .ok (.next env') s1 := by
  simp only [evS, h, R.bind_ok, h2, Option.map_some, R.of_some]
theorem call1 {f : Nat} {x : Kd × D} {o : Bool} {d : D} (h : evE Φ Gg a env s = .ok x s1) (hk : x.1 ≠ .peek) (h2 : Φ f [.d x.2] s1 = .ok (o, d) s2) : evE Φ Gg (.call f (.cons a .nil)) env s = .ok (if o then .own else .frz, d) s2 := by
  simp only [evE, evG, h, R.bind_ok, if_neg hk, h2]
theorem callS {f i : Nat} {o : Bool} {d : D} (h : env[i]? = some .src) (h2 : Φ f [.src] s = .ok (o, d) s2) : evE Φ Gg (.call f (.csrc i .nil)) env s = .ok (if o then .own else .frz, d) s2 := by
  simp only [evE, evG, h, R.bind_ok, h2]
theorem callS1 {f i : Nat} {x : Kd × D} {o : Bool} {d : D} (h : env[i]? = some .src) (h1 : evE Φ Gg a env s = .ok x s1) (hk : x.1 ≠ .peek) (h2 : Φ f [.src, .d x.2] s1 = .ok (o, d) s2) : evE Φ Gg (.call f (.csrc i (.cons a .nil))) env s = .ok (if o then .own else .frz, d) s2 := by
  simp only [evE, evG, h, h1, R.bind_ok, if_neg hk, h2]
theorem v_e {i : Nat} {d : D} (h : env[i]? = some (.d false d)) : evE Φ Gg (.v i) env s = .ok (.frz, d) s := by
  simp only [evE, h]
theorem g_e {i : Nat} {d : D} (h : Gg i = some d) : evE Φ Gg (.g i) env s = .ok (.frz, d) s := by
  simp only [evE, h, Option.map_some, R.of_some]
theorem sub_e {x y : Kd × D} {d : D} (h1 : evE Φ Gg a env s = .ok x s1) (h2 : evE Φ Gg b env s1 = .ok y s2) (h : subF x.2 y.2 = some d) : evE Φ Gg (.sub a b) env s = .ok (.frz, d) s2 := by
  simp only [evE, h1, h2, R.bind_ok, h, Option.map_some, R.of_some]
theorem ev_c {d : D} : evE Φ Gg (.c d) env s = .ok (.frz, d) s := by simp only [evE]
end
theorem forL_invN {f : D → Env → Src → R Fl} {I : Nat → Env → Prop} {N : Nat} : ∀ {xs : List D} {i : Nat} {env : Env} {s : Src}, i + xs.length ≤ N → (∀ i x env s, i < N → x ∈ xs → I i env → ∃ env' s', f x env s = .ok (.next env') s' ∧ I (i + 1) env') → I i env →
    ∃ env' s', forL f xs env s = .ok (.next env') s' ∧ I (i + xs.length) env'
  | [], i, env, s, _, _, h => ⟨env, s, rfl, h⟩
  | x :: xs, i, env, s, hn, hf, h => by
    have hn : i + (xs.length + 1) ≤ N := hn
    obtain ⟨env1, s1, e1, h1⟩ := hf i x env s (by omega) List.mem_cons_self h
    obtain ⟨env2, s2, e2, h2⟩ := forL_invN (xs := xs) (i := i + 1) (env := env1) (s := s1) (by omega) (fun i y env s hi hy => hf i y env s hi (List.mem_cons_of_mem _ hy)) h1
    refine ⟨env2, s2, ?_, by rw [List.length_cons, Nat.add_comm xs.length, ← Nat.add_assoc]; exact h2⟩
    unfold forL
    rw [e1]
    exact e2
section
variable {Φ : Nat → List Arg → Src → R (Bool × D)} {Gg : Nat → Option D} {a b c r tgs : T} {env : Env} {s s1 s2 : Src}
theorem fz_e {is : List Nat} {env' : Env} (h : fzE env is = env') : evS Φ Gg (.fz is r) env s = evS Φ Gg r env' s := by
  simp only [evS, h]
theorem ea_nil : evA Φ Gg .nil env s = .ok [] s := by simp only [evA]
theorem ea_cons {x : Kd × D} {xs : List (Kd × D)} (h : evE Φ Gg a env s = .ok x s1) (h2 : evA Φ Gg r env s1 = .ok xs s2) : evA Φ Gg (.cons a r) env s = .ok (x :: xs) s2 := by
  simp only [evA, h, h2, R.bind_ok]
theorem par_e {es : T} {xs : List (Kd × D)} {env' : Env} (h : evA Φ Gg es env s = .ok xs s1) (h2 : bindP tgs xs env = some env') : evS Φ Gg (.par tgs es) env s = .ok (.next env') s1 := by
  simp only [evS, h, R.bind_ok, h2, Option.map_some, R.of_some]
theorem ife_t {x : Kd × D} (h : evE Φ Gg c env s = .ok x s1) (ht : truth x.2 = true) : evE Φ Gg (.ife c a b) env s = evE Φ Gg a env s1 := by
  simp only [evE, h, R.bind_ok, if_pos ht]
theorem ife_f {x : Kd × D} (h : evE Φ Gg c env s = .ok x s1) (ht : truth x.2 = false) : evE Φ Gg (.ife c a b) env s = evE Φ Gg b env s1 := by
  simp only [evE, h, R.bind_ok, ht]
  rfl
theorem app_e {i : Nat} {xs : List D} {k : Kd} {d : D} (h0 : env[i]? = some (.d true (.list xs))) (h : evE Φ Gg a env s = .ok (k, d) s1) (hk : k ≠ .peek) (hl : xs.length < sizeLine) : evS Φ Gg (.app i a) env s = .ok (.next (env.set i (.d true (.list (xs ++ [d]))))) s1 := by
  simp only [evS, ownL, h0, h, R.bind_ok, if_neg hk, if_pos hl]
theorem vo_e {i : Nat} {d : D} (h : env[i]? = some (.d true d)) : evE Φ Gg (.v i) env s = .ok (.peek, d) s := by
  simp only [evE, h]
theorem lst_e {es : T} {xs : List (Kd × D)} {ds : List D} (h : evA Φ Gg es env s = .ok xs s1) (h2 : noPeek xs = some ds) (hl : ds.length ≤ sizeLine) : evE Φ Gg (.lst es) env s = .ok (.own, .list ds) s1 := by
  simp only [evE, h, R.bind_ok, h2, Option.bind_some, if_pos hl, R.of_some]
end
theorem enu_mem {x : D} : ∀ {ys : List D} {i : Nat}, x ∈ enuD i ys → ∃ (j : Nat) (y : D), x = .tuple [.int j, y] ∧ y ∈ ys ∧ j < i + ys.length
  | y :: ys, i, h => by
    rcases List.mem_cons.mp (show x ∈ .tuple [.int (i : Nat), y] :: enuD (i + 1) ys from h) with rfl | h
    · exact ⟨i, y, rfl, List.mem_cons_self, by simp⟩
    · obtain ⟨j, z, e, hz, hj⟩ := enu_mem h
      exact ⟨j, z, e, List.mem_cons_of_mem _ hz, by rw [List.length_cons]; omega⟩
theorem enu_len : ∀ (ys : List D) (i : Nat), (enuD i ys).length = ys.length
  | [], _ => rfl
  | y :: ys, i => by
    show (enuD (i + 1) ys).length + 1 = ys.length + 1
    rw [enu_len ys]
end Tre
set_option maxHeartbeats 0
/-! K01T: the trees of law k01. -/
namespace K01
open PySem PySem.Spec PyProof.Rows L2 Tre
def tds : List (Str × Nat × Str × Str) := [("_law_raised", 0, "told", "wrong")]
def fns : List Str := ["run_behind", "lexeme_from", "lexemes", "is_name", "is_between", "is_label", "is_beginning", "label_text", "beginning_text", "_law_pick", "_law_of", "_law_lexed", "_law_text", "_law_number", "_law_is_label", "_law_is_name", "_law_value"]
def cns : List Str := ["BLANKS", "SIGNS", "SMALL", "FIGURES", "MOST_SIGNS", "MOST_NUMBER", "MOST_WIRES", "MOST_MOMENTS", "KEPT"]
def xcs : List (Str × Nat) := [("BadText", 1)]
/-- run_behind, at 13 -/
def N_run_behind : List Str := ["text", "place", "signs"]
def b_run_behind : T := (.seq (.wh [] (.and (.cmp .Lt (.v 1) (.bi .len (.cons (.v 0) .nil))) (.cmp .In (.sub (.v 0) (.v 1)) (.v 2))) (.seq (.aug 1 .Add (.c (.int 1))) .nil)) (.seq (.ret (.v 1)) .nil))
/-- lexeme_from, at 14 -/
def N_lexeme_from : List Str := ["text", "place", "end"]
def b_lexeme_from : T := (.seq (.asg (.v 1) (.call 0 (.cons (.v 0) (.cons (.v 1) (.cons (.g 0) .nil))))) (.seq (.ifs (.cmp .Eq (.v 1) (.bi .len (.cons (.v 0) .nil))) (.seq (.ret (.tup (.cons (.c (.str "end")) (.cons (.c (.str "")) (.cons (.v 1) .nil))))) .nil) .nil) (.seq (.ifs (.cmp .In (.sub (.v 0) (.v 1)) (.g 1)) (.seq (.ret (.tup (.cons (.c (.str "sign")) (.cons (.sub (.v 0) (.v 1)) (.cons (.v 1) .nil))))) .nil) .nil) (.seq (.asg (.v 2) (.call 0 (.cons (.v 0) (.cons (.v 1) (.cons (.op .Add (.g 2) (.g 3)) .nil))))) (.seq (.ret (.ife (.cmp .Gt (.v 2) (.v 1)) (.tup (.cons (.c (.str "word")) (.cons (.sl (.v 0) (.cons (.v 1) .nil) (.cons (.v 2) .nil)) (.cons (.v 1) .nil)))) (.tup (.cons (.c (.str "wrong")) (.cons (.c (.str "")) (.cons (.v 1) .nil)))))) .nil)))))
/-- lexemes, at 15 -/
def N_lexemes : List Str := ["text", "found", "here"]
def b_lexemes : T := (.seq (.par (.cons (.ov 1) (.cons (.ov 2) .nil)) (.cons (.lst .nil) (.cons (.call 1 (.cons (.v 0) (.cons (.c (.int 0)) .nil))) .nil))) (.fz [2] (.seq (.wh [] (.cmp .NotEq (.sub (.v 2) (.c (.int 0))) (.c (.str "end"))) (.seq (.ifs (.cmp .Eq (.sub (.v 2) (.c (.int 0))) (.c (.str "wrong"))) (.seq (.raise 0 1 (.cons (.sub (.v 2) (.c (.int 2))) .nil)) .nil) .nil) (.seq (.app 1 (.v 2)) (.seq (.asg (.v 2) (.call 1 (.cons (.v 0) (.cons (.op .Add (.sub (.v 2) (.c (.int 2))) (.bi .len (.cons (.sub (.v 2) (.c (.int 1))) .nil))) .nil)))) .nil)))) (.seq (.retv 1) .nil))))
/-- is_name, at 16 -/
def N_is_name : List Str := ["value", "sign"]
def b_is_name : T := (.seq (.ifs (.or (.not (.isi "str" (.v 0))) (.or (.not (.cmp2 .Lt .LtE (.c (.int 0)) (.bi .len (.cons (.v 0) .nil)) (.g 4))) (.or (.cmp .NotIn (.sub (.v 0) (.c (.int 0))) (.g 2)) (.cmp .In (.v 0) (.g 8))))) (.seq (.ret (.c (.bool false))) .nil) .nil) (.seq (.ret (.bi .all (.cons (.lc (.v 1) (.it (.v 0)) (.c (.bool true)) (.cmp .In (.v 1) (.op .Add (.g 2) (.g 3))) [1]) .nil))) .nil))
/-- is_between, at 17 -/
def N_is_between : List Str := ["value", "least", "most"]
def b_is_between : T := (.seq (.ret (.and (.isi "int" (.v 0)) (.and (.not (.isi "bool" (.v 0))) (.cmp2 .LtE .LtE (.v 1) (.v 0) (.v 2))))) .nil)
/-- is_label, at 18 -/
def N_is_label : List Str := ["value", "one"]
def b_is_label : T := (.seq (.ifs (.or (.not (.isi "tuple" (.v 0))) (.not (.cmp2 .Lt .LtE (.c (.int 0)) (.bi .len (.cons (.v 0) .nil)) (.g 6)))) (.seq (.ret (.c (.bool false))) .nil) .nil) (.seq (.ret (.bi .all (.cons (.lc (.v 1) (.it (.v 0)) (.c (.bool true)) (.call 4 (.cons (.v 1) (.cons (.c (.int 0)) (.cons (.g 5) .nil)))) [1]) .nil))) .nil))
/-- is_beginning, at 19 -/
def N_is_beginning : List Str := ["value", "one"]
def b_is_beginning : T := (.seq (.ret (.and (.isi "tuple" (.v 0)) (.and (.cmp .LtE (.bi .len (.cons (.v 0) .nil)) (.g 7)) (.bi .all (.cons (.lc (.v 1) (.it (.v 0)) (.c (.bool true)) (.call 5 (.cons (.v 1) .nil)) [1]) .nil))))) .nil)
/-- label_text, at 20 -/
def N_label_text : List Str := ["label", "number"]
def b_label_text : T := (.seq (.ret (.me .join (.c (.str " ")) (.cons (.lc (.v 1) (.it (.v 0)) (.c (.bool true)) (.bi .str (.cons (.v 1) .nil)) [1]) .nil))) .nil)
/-- beginning_text, at 21 -/
def N_beginning_text : List Str := ["beginning", "label"]
def b_beginning_text : T := (.seq (.ret (.op .Add (.op .Add (.c (.str "(")) (.me .join (.c (.str ", ")) (.cons (.lc (.v 1) (.it (.v 0)) (.c (.bool true)) (.call 7 (.cons (.v 1) .nil)) [1]) .nil))) (.c (.str ")")))) .nil)
/-- _law_pick, at 24 -/
def N__law_pick : List Str := ["source", "many", "left", "mixed"]
def b__law_pick : T := (.seq (.wh [] (.and (.cmp .Gt (.v 1) (.c (.int 1))) (.and (.cmp .Lt (.srcG 0 0) (.c (.int 2))) (.cmp .Gt (.srcL 0) (.c (.int 0))))) (.seq (.srcP 0) .nil)) (.seq (.asg (.v 2) (.srcG 0 0)) (.seq (.ifs (.or (.cmp .Lt (.v 1) (.c (.int 2))) (.cmp .Gt (.v 2) (.c (.int 1)))) (.seq (.srcS 0 0 (.op .FloorDiv (.v 2) (.bi .max (.cons (.c (.int 1)) (.cons (.v 1) .nil))))) (.seq (.ret (.op .Mod (.bi .int (.cons (.v 2) .nil)) (.bi .max (.cons (.c (.int 1)) (.cons (.v 1) .nil))))) .nil)) .nil) (.seq (.srcS 2 0 (.op .Add (.srcG 2 0) (.c (.int 1)))) (.seq (.asg (.v 3) (.op .Mod (.bi .int (.cons (.op .Add (.srcG 1 0) (.op .Mult (.srcG 2 0) (.c (.int 104729)))) .nil)) (.c (.int 998244353)))) (.seq (.asg (.v 3) (.op .Mod (.bi .int (.cons (.op .Add (.op .Mult (.v 3) (.v 3)) (.op .Mult (.srcG 2 0) (.c (.int 17)))) .nil)) (.c (.int 2147483647)))) (.seq (.srcS 1 0 (.v 3)) (.seq (.ret (.op .Mod (.bi .int (.cons (.op .FloorDiv (.v 3) (.c (.int 16))) .nil)) (.v 1))) .nil))))))))
/-- _law_of, at 25 -/
def N__law_of : List Str := ["source", "some"]
def b__law_of : T := (.seq (.ret (.sub (.v 1) (.call 9 (.csrc 0 (.cons (.bi .len (.cons (.v 1) .nil)) .nil))))) .nil)
/-- _law_lexed, at 27 -/
def N__law_lexed : List Str := ["text", "found", "word", "first", "place", "sign"]
def b__law_lexed : T := (.seq (.par (.cons (.ov 1) (.cons (.ov 2) (.cons (.ov 3) .nil))) (.cons (.lst .nil) (.cons (.c (.str "")) (.cons (.c (.int 0)) .nil)))) (.fz [2, 3] (.seq (.for (.tup (.cons (.v 4) (.cons (.v 5) .nil))) (.enu (.op .Add (.v 0) (.c (.str " ")))) (.seq (.ifs (.cmp .In (.v 5) (.c (.str "abcdefghijklmnopqrstuvwxyz0123456789"))) (.seq (.asg (.v 3) (.ife (.cmp .Eq (.v 2) (.c (.str ""))) (.v 4) (.v 3))) (.seq (.asg (.v 2) (.op .Add (.v 2) (.v 5))) (.seq .cnt .nil))) .nil) (.seq (.ifs (.cmp .NotEq (.v 2) (.c (.str ""))) (.seq (.app 1 (.tup (.cons (.c (.str "word")) (.cons (.v 2) (.cons (.v 3) .nil))))) (.seq (.asg (.v 2) (.c (.str ""))) .nil)) .nil) (.seq (.ifs (.cmp .In (.v 5) (.c (.str "(),:;=+"))) (.seq (.app 1 (.tup (.cons (.c (.str "sign")) (.cons (.v 5) (.cons (.v 4) .nil))))) .nil) (.seq (.ifs (.cmp .NotIn (.v 5) (.c (.str " \n"))) (.seq (.ret (.tup (.cons (.c (.str "wrong")) (.cons (.v 4) .nil)))) .nil) .nil) .nil)) .nil)))) (.fz [1] (.seq (.ret (.tup (.cons (.c (.str "told")) (.cons (.v 1) .nil)))) .nil)))))
/-- _law_text, at 28 -/
def N__law_text : List Str := ["source", "some", "odd", "text", "k"]
def b__law_text : T := (.seq (.asg (.v 1) (.lst (.cons (.c (.str "x")) (.cons (.c (.str "c")) (.cons (.c (.str "a1")) (.cons (.c (.str "delay")) (.cons (.c (.str "circuit")) (.cons (.c (.str "0")) (.cons (.c (.str "12")) (.cons (.c (.str "007")) (.cons (.op .Mult (.c (.str "z")) (.c (.int 12))) (.cons (.op .Mult (.c (.str "z")) (.c (.int 13))) (.cons (.c (.str "2x")) (.cons (.c (.str "once")) (.cons (.c (.str "numbers")) .nil))))))))))))))) (.seq (.asg (.v 1) (.op .Add (.v 1) (.lst (.cons (.c (.str "(")) (.cons (.c (.str ")")) (.cons (.c (.str ",")) (.cons (.c (.str ":")) (.cons (.c (.str ";")) (.cons (.c (.str "=")) (.cons (.c (.str "+")) (.cons (.c (.str " ")) (.cons (.c (.str "\n")) (.cons (.c (.str "  ")) (.cons (.c (.str " ")) (.cons (.c (.str " ")) .nil))))))))))))))) (.seq (.asg (.v 2) (.lst (.cons (.c (.str "-")) (.cons (.c (.str "A")) (.cons (.c (.str "_")) (.cons (.c (.str ".")) (.cons (.c (.str "\t")) (.cons (.c (.str "{")) (.cons (.c (.str "|")) (.cons (.c (.str "~")) (.cons (.c (.str "?")) (.cons (.c (.str "[")) (.cons (.c (.str "'")) (.cons (.c (.str "/")) .nil)))))))))))))) (.seq (.asg (.v 3) (.c (.str ""))) (.seq (.for (.v 4) (.rng (.cons (.call 9 (.csrc 0 (.cons (.c (.int 12)) .nil))) .nil)) (.seq (.asg (.v 3) (.op .Add (.v 3) (.call 10 (.csrc 0 (.cons (.v 1) .nil))))) .nil)) (.seq (.ifs (.cmp .Eq (.call 9 (.csrc 0 (.cons (.c (.int 3)) .nil))) (.c (.int 0))) (.seq (.asg (.v 4) (.call 9 (.csrc 0 (.cons (.op .Add (.bi .len (.cons (.v 3) .nil)) (.c (.int 1))) .nil)))) (.seq (.asg (.v 3) (.op .Add (.op .Add (.sl (.v 3) .nil (.cons (.v 4) .nil)) (.call 10 (.csrc 0 (.cons (.v 2) .nil)))) (.sl (.v 3) (.cons (.v 4) .nil) .nil))) .nil)) .nil) (.seq (.ret (.v 3)) .nil)))))))
/-- _law_number, at 29 -/
def N__law_number : List Str := ["value"]
def b__law_number : T := (.seq (.ret (.and (.isi "int" (.v 0)) (.and (.not (.isi "bool" (.v 0))) (.cmp2 .LtE .Lt (.c (.int 0)) (.v 0) (.c (.int 5)))))) .nil)
/-- _law_is_label, at 30 -/
def N__law_is_label : List Str := ["value", "one"]
def b__law_is_label : T := (.seq (.ifs (.or (.not (.isi "tuple" (.v 0))) (.not (.cmp2 .Lt .Lt (.c (.int 0)) (.bi .len (.cons (.v 0) .nil)) (.c (.int 21))))) (.seq (.ret (.c (.bool false))) .nil) .nil) (.seq (.ret (.cmp .Eq (.lc (.v 1) (.it (.v 0)) (.not (.call 13 (.cons (.v 1) .nil))) (.v 1) [1]) (.lst .nil))) .nil))
/-- _law_is_name, at 31 -/
def N__law_is_name : List Str := ["value", "kept", "sign"]
def b__law_is_name : T := (.seq (.asg (.v 1) (.c (.str "again alike and back circuit dead delay feed in inner ins kept later law lets light many may numbers once"))) (.seq (.asg (.v 1) (.me .split (.op .Add (.v 1) (.c (.str " open pipe plus promise rest size steer stream use within without"))) (.cons (.c (.str " ")) .nil))) (.seq (.ifs (.or (.not (.isi "str" (.v 0))) (.or (.not (.cmp2 .Lt .Lt (.c (.int 0)) (.bi .len (.cons (.v 0) .nil)) (.c (.int 13)))) (.or (.cmp .In (.v 0) (.v 1)) (.cmp .In (.sub (.v 0) (.c (.int 0))) (.c (.str "0123456789")))))) (.seq (.ret (.c (.bool false))) .nil) .nil) (.seq (.ret (.cmp .Eq (.lc (.v 2) (.it (.v 0)) (.cmp .NotIn (.v 2) (.c (.str "abcdefghijklmnopqrstuvwxyz0123456789"))) (.v 2) [2]) (.lst .nil))) .nil))))
/-- _law_value, at 32 -/
def N__law_value : List Str := ["source", "some", "numbers", "label", "right", "word", "many", "k", "one"]
def b__law_value : T := (.seq (.asg (.ov 1) (.lst (.cons (.c (.str "a")) (.cons (.c (.str "x9")) (.cons (.c (.str "open")) (.cons (.c (.str "opens")) (.cons (.op .Mult (.c (.str "z")) (.c (.int 12))) (.cons (.op .Mult (.c (.str "z")) (.c (.int 13))) (.cons (.c (.str "9x")) (.cons (.c (.str "")) (.cons (.c (.str "aB")) (.cons (.c (.str "a_")) (.cons (.c (.str "law")) (.cons (.c (.str "laws")) (.cons (.c (.str "a\n")) (.cons (.c (.str "a ")) .nil)))))))))))))))) (.fz [1] (.seq (.par (.cons (.ov 5) (.cons (.ov 6) .nil)) (.cons (.call 10 (.csrc 0 (.cons (.v 1) .nil))) (.cons (.call 10 (.csrc 0 (.cons (.lst (.cons (.c (.int 0)) (.cons (.c (.int 1)) (.cons (.c (.int 2)) (.cons (.c (.int 3)) (.cons (.c (.int 20)) (.cons (.c (.int 21)) .nil))))))) .nil))) .nil))) (.fz [5, 6] (.seq (.asg (.v 2) (.lc (.v 7) (.rng (.cons (.v 6) .nil)) (.c (.bool true)) (.call 10 (.csrc 0 (.cons (.lst (.cons (.c (.int 0)) (.cons (.c (.int 1)) (.cons (.c (.int 2)) (.cons (.c (.int 3)) (.cons (.c (.int 4)) (.cons (.c (.int 0)) (.cons (.c (.int 1)) (.cons (.c (.int 4)) (.cons (.c (.int 5)) (.cons (.neg (.c (.int 1))) (.cons (.c (.bool true)) (.cons (.c .none) .nil))))))))))))) .nil))) [7])) (.seq (.asg (.v 3) (.bi .tuple (.cons (.lc (.tup (.cons (.v 7) (.cons (.v 8) .nil))) (.enu (.v 2)) (.c (.bool true)) (.ife (.cmp .Eq (.call 9 (.csrc 0 (.cons (.c (.int 3)) .nil))) (.c (.int 0))) (.v 8) (.op .Sub (.v 7) (.op .Mult (.op .FloorDiv (.v 7) (.c (.int 5))) (.c (.int 5))))) [7, 8]) .nil))) (.seq (.asg (.v 4) (.bi .tuple (.cons (.lc (.v 7) (.rng (.cons (.op .Add (.c (.int 1)) (.call 9 (.csrc 0 (.cons (.c (.int 4)) .nil)))) .nil)) (.c (.bool true)) (.call 9 (.csrc 0 (.cons (.c (.int 5)) .nil))) [7]) .nil))) (.seq (.asg (.ov 1) (.lst (.cons (.v 5) (.cons (.v 5) (.cons (.v 3) (.cons (.v 4) (.cons (.bi .list (.cons (.v 4) .nil)) (.cons (.tup (.cons (.v 4) .nil)) (.cons (.tup (.cons (.v 4) (.cons (.sl (.v 4) .nil (.cons (.c (.int 1)) .nil)) .nil))) (.cons (.tup (.cons (.v 4) (.cons (.v 3) .nil))) (.cons (.tup .nil) .nil))))))))))) (.seq (.app 1 (.tup (.cons (.v 4) (.cons (.bi .list (.cons (.v 4) .nil)) .nil)))) (.seq (.ret (.call 10 (.csrc 0 (.cons (.op .Add (.v 1) (.lst (.cons (.c .none) (.cons (.c (.int 0)) (.cons (.c (.bool true)) (.cons (.c (.str "0")) (.cons (.op .Mult (.tup (.cons (.v 4) .nil)) (.call 10 (.csrc 0 (.cons (.lst (.cons (.c (.int 200)) (.cons (.c (.int 201)) .nil))) .nil)))) (.cons (.lst (.cons (.v 4) .nil)) (.cons (.tup (.cons (.c .none) .nil)) .nil))))))))) .nil)))) .nil))))))))))
/-- law, at 33 -/
def N_law : List Str := ["script", "source", "lap", "told", "text", "value", "shown", "is_one", "rows", "label", "one", "number"]
def b_law : T := (.seq (.for (.v 2) (.rng (.cons (.c (.int 6)) .nil)) (.seq (.asg (.v 4) (.call 12 (.csrc 1 .nil))) (.seq (.ifs (.cmp .NotEq (.bi .repr (.cons (.told 2 0 "told" "wrong" (.cons (.v 4) .nil)) .nil)) (.bi .repr (.cons (.call 11 (.cons (.v 4) .nil)) .nil))) (.seq (.ret (.c (.bool false))) .nil) .nil) (.seq (.asg (.v 5) (.call 16 (.csrc 1 .nil))) (.seq (.asg (.v 6) (.bi .repr (.cons (.v 5) .nil))) (.seq (.asg (.v 7) (.and (.isi "tuple" (.v 5)) (.cmp .Lt (.bi .len (.cons (.v 5) .nil)) (.c (.int 201))))) (.seq (.asg (.v 7) (.and (.v 7) (.cmp .Eq (.lc (.v 10) (.it (.v 5)) (.not (.call 14 (.cons (.v 10) .nil))) (.v 10) [10]) (.lst .nil)))) (.seq (.asg (.v 3) (.lst (.cons (.call 3 (.cons (.v 5) .nil)) (.cons (.call 5 (.cons (.v 5) .nil)) (.cons (.call 6 (.cons (.v 5) .nil)) .nil))))) (.seq (.ifs (.or (.cmp .NotEq (.bi .repr (.cons (.v 3) .nil)) (.bi .repr (.cons (.lst (.cons (.call 15 (.cons (.v 5) .nil)) (.cons (.call 14 (.cons (.v 5) .nil)) (.cons (.v 7) .nil)))) .nil))) (.cmp .NotEq (.bi .repr (.cons (.v 5) .nil)) (.v 6))) (.seq (.ret (.c (.bool false))) .nil) .nil) (.seq (.ifs (.v 7) (.seq (.asg (.v 8) (.lc (.v 9) (.it (.v 5)) (.c (.bool true)) (.me .join (.c (.str " ")) (.cons (.lc (.v 11) (.it (.v 9)) (.c (.bool true)) (.bi .str (.cons (.v 11) .nil)) [11]) .nil)) [9])) (.seq (.ifs (.cmp .NotEq (.bi .repr (.cons (.call 8 (.cons (.v 5) .nil)) .nil)) (.bi .repr (.cons (.op .Add (.op .Add (.c (.str "(")) (.me .join (.c (.str ", ")) (.cons (.v 8) .nil))) (.c (.str ")"))) .nil))) (.seq (.ret (.c (.bool false))) .nil) .nil) .nil)) .nil) .nil)))))))))) (.seq (.asg (.v 3) (.lst (.cons (.call 3 (.cons (.c (.str "numbers")) .nil)) (.cons (.call 3 (.cons (.c (.str "number")) .nil)) (.cons (.call 5 (.cons (.tup (.cons (.c (.int 4)) (.cons (.c (.int 0)) .nil))) .nil)) (.cons (.call 5 (.cons (.op .Mult (.tup (.cons (.c (.int 0)) .nil)) (.c (.int 20))) .nil)) (.cons (.call 6 (.cons (.tup .nil) .nil)) .nil))))))) (.seq (.ret (.cmp .Eq (.bi .repr (.cons (.op .Add (.v 3) (.lst (.cons (.call 8 (.cons (.tup .nil) .nil)) .nil))) .nil)) (.bi .repr (.cons (.lst (.cons (.c (.bool false)) (.cons (.c (.bool true)) (.cons (.c (.bool true)) (.cons (.c (.bool true)) (.cons (.c (.bool true)) (.cons (.c (.str "()")) .nil))))))) .nil)))) .nil)))
def P : List Fn := [.body 3 3 b_run_behind,
  .body 2 3 b_lexeme_from,
  .body 1 3 b_lexemes,
  .body 1 2 b_is_name,
  .body 3 3 b_is_between,
  .body 1 2 b_is_label,
  .body 1 2 b_is_beginning,
  .body 1 2 b_label_text,
  .body 1 2 b_beginning_text,
  .body 2 4 b__law_pick,
  .body 2 2 b__law_of,
  .body 1 6 b__law_lexed,
  .body 1 5 b__law_text,
  .body 1 1 b__law_number,
  .body 1 2 b__law_is_label,
  .body 1 3 b__law_is_name,
  .body 1 9 b__law_value]
def cons : List (Str × D) := [("BLANKS", .str " \n"), ("SIGNS", .str "(),:;=+"), ("SMALL", .str "abcdefghijklmnopqrstuvwxyz"), ("FIGURES", .str "0123456789"), ("MOST_SIGNS", .int (12)), ("MOST_NUMBER", .int (4)), ("MOST_WIRES", .int (20)), ("MOST_MOMENTS", .int (200)), ("KEPT", .tuple [.str "again", .str "alike", .str "and", .str "back", .str "circuit", .str "dead", .str "delay", .str "feed", .str "in", .str "inner", .str "ins", .str "kept", .str "later", .str "law", .str "lets", .str "light", .str "many", .str "may", .str "numbers", .str "once", .str "open", .str "pipe", .str "plus", .str "promise", .str "rest", .str "size", .str "steer", .str "stream", .str "use", .str "within", .str "without"])]
end K01
set_option maxHeartbeats 1000000
/-! K01Q: the lexer of k01. -/
namespace K01
open PySem PySem.Spec PyProof.Rows L2 Tre _root_.SX

abbrev G := gOf cons
noncomputable abbrev Ph := Phi P G
theorem pick_ok (k : Nat) : Picks (Ph (k + 1) 9) := fun s m h1 h2 => pick_gen s m h1 h2
theorem of_ok (k : Nat) : Ofs (Ph (k + 2) 10) := fun s xs h1 h2 => of_gen (pick_ok k) s xs h1 h2

abbrev AL : Str := "abcdefghijklmnopqrstuvwxyz0123456789"
abbrev SG : Str := "(),:;=+"
abbrev BL : Str := " \n"
theorem al_eq : (Str.ofString "abcdefghijklmnopqrstuvwxyz") ++ (Str.ofString "0123456789") = AL := by decide +kernel
def runL (z : Str) (l : List Nat) : Nat := (l.takeWhile fun c => decide (c ∈ tl z)).length
theorem runL_le (z : Str) (l : List Nat) : runL z l ≤ l.length := by unfold runL; exact (List.takeWhile_sublist _).length_le

theorem drop_cons {x : Str} {p : Nat} {c : Nat} {r : List Nat} (h : (tl x).drop p = c :: r) : (tl x)[p]? = some c ∧ (tl x).drop (p + 1) = r ∧ p < x.length := by
  have h1 : p < (tl x).length := by
    refine Nat.lt_of_not_le fun z => ?_
    rw [List.drop_eq_nil_of_le z] at h
    cases h
  have h2 := List.drop_eq_getElem_cons h1
  rw [h2] at h
  obtain ⟨rfl, rfl⟩ := List.cons.inj h
  exact ⟨List.getElem?_eq_getElem h1, rfl, h1⟩
theorem drop_nil {x : Str} {p : Nat} (h : (tl x).drop p = []) (hp : p ≤ x.length) : p = x.length := by
  have := List.drop_eq_nil_iff.mp h
  have : x.length ≤ p := this
  omega
def rbC : T := (.and (.cmp .Lt (.v 1) (.bi .len (.cons (.v 0) .nil))) (.cmp .In (.sub (.v 0) (.v 1)) (.v 2)))
def rbB : T := (.seq (.aug 1 .Add (.c (.int 1))) .nil)
theorem run_loop {Φ : Nat → List Tre.Arg → Src → R (Bool × D)} {Gg : Nat → Option D} (x z : Str) (s : Src) : ∀ (l : List Nat) (p : Nat), (tl x).drop p = l → p ≤ x.length →
    evS Φ Gg (.wh [] rbC rbB) [.d false (.str x), .d false (.int p), .d false (.str z)] s = .ok (.next [.d false (.str x), .d false (.int (p + runL z l : Nat)), .d false (.str z)]) s
  | [], p, h, hp => by
    have e := drop_nil h hp
    simp only [evS]
    refine whR_end (d := .bool false) ?_ rfl
    unfold rbC fzE
    simp [evE, evA, biF, cmpF, i2F, truth, R.of, e]
  | c :: r, p, h, hp => by
    obtain ⟨h1, h2, h3⟩ := drop_cons h
    have ev : (evE Φ Gg rbC [.d false (.str x), .d false (.int p), .d false (.str z)] s).bind (fun x s => R.ok x.2 s) = .ok (.bool (decide (c ∈ tl z))) s := by
      unfold rbC
      have e1 : subF (.str x) (.int p) = some (.str (S [c])) := by rw [sub_S, h1]; rfl
      simp [evE, evA, biF, cmpF, i2F, truth, R.of, h3, e1, in1]
    by_cases hc : c ∈ tl z
    · have ih := run_loop (Φ := Φ) (Gg := Gg) x z s r (p + 1) h2 h3
      have er : runL z (c :: r) = runL z r + 1 := by
        unfold runL
        rw [List.takeWhile_cons_of_pos (by simpa using hc)]
        rfl
      rw [er, show p + (runL z r + 1) = p + 1 + runL z r by omega, ← ih]
      simp only [evS]
      rw [decide_eq_true hc] at ev
      refine whR_next (d := .bool true) ev rfl ?_
      unfold rbB fzE
      simp [evS, evE, Tre.opI]
    · have er : runL z (c :: r) = 0 := by
        unfold runL
        rw [List.takeWhile_cons_of_neg (by simpa using hc)]
        rfl
      rw [er]
      simp only [evS]
      rw [decide_eq_false hc] at ev
      exact whR_end (d := .bool false) ev rfl
theorem run_ok (k : Nat) (s : Src) (x z : Str) (p : Nat) (hp : p ≤ x.length) : Ph (k + 1) 0 [.d (.str x), .d (.int p), .d (.str z)] s = .ok (false, .int (p + runL z ((tl x).drop p) : Nat)) s := by
  show endF (evS (Ph k) G b_run_behind [.d false (.str x), .d false (.int p), .d false (.str z)] s) = _
  unfold b_run_behind
  have rl := run_loop (Φ := Ph k) (Gg := G) x z s _ p rfl hp
  unfold rbC rbB at rl
  rw [seq_next rl]
  simp [evS, evE]
  rfl

/-- the lexeme from a rest on -/
def lf (l : List Nat) (p : Nat) : D := match l.drop (runL BL l) with
  | [] => .tuple [.str "end", .str "", .int (p + runL BL l : Nat)]
  | c :: r => if c ∈ tl SG then .tuple [.str "sign", .str (S [c]), .int (p + runL BL l : Nat)]
    else if 0 < runL AL (c :: r) then .tuple [.str "word", .str (S ((c :: r).take (runL AL (c :: r)))), .int (p + runL BL l : Nat)]
    else .tuple [.str "wrong", .str "", .int (p + runL BL l : Nat)]
theorem lf_ok (k : Nat) (s : Src) (x : Str) (p : Nat) (hp : p ≤ x.length) : Ph (k + 2) 1 [.d (.str x), .d (.int p)] s = .ok (false, lf ((tl x).drop p) p) s := by
  show endF (evS (Ph (k + 1)) G b_lexeme_from [.d false (.str x), .d false (.int p), .e] s) = _
  unfold b_lexeme_from
  have gB : G 0 = some (.str BL) := rfl
  have gS : G 1 = some (.str SG) := rfl
  have g2 : G 2 = some (.str "abcdefghijklmnopqrstuvwxyz") := rfl
  have g3 : G 3 = some (.str "0123456789") := rfl
  obtain ⟨q, hq⟩ : ∃ q, q = p + runL BL ((tl x).drop p) := ⟨_, rfl⟩
  have hql : q ≤ x.length := by
    have := runL_le BL ((tl x).drop p)
    rw [List.length_drop] at this
    have e : (tl x).length = x.length := rfl
    omega
  have hd : ((tl x).drop p).drop (runL BL ((tl x).drop p)) = (tl x).drop q := by rw [List.drop_drop, hq]
  rw [seq_next (env' := [.d false (.str x), .d false (.int q), .e]) (s' := s) (by simp [evS, evE, evG, gB, R.of, run_ok k s x BL p hp, bindT, putE, ← hq])]
  unfold lf
  rw [hd, ← hq]
  cases hl : (tl x).drop q with
  | nil =>
    have e := drop_nil hl hql
    refine congrArg endF (seq_ret ?_)
    rw [ifs_t (x := (.frz, .bool true)) (s' := s) (by simp [evE, evA, biF, cmpF, eqF_int, R.of, e]) rfl]
    simp [evS, evE, evA, noPeek, R.of, sizeL]
  | cons c r =>
    obtain ⟨h1, h2, h3⟩ := drop_cons hl
    have e1 : subF (.str x) (.int q) = some (.str (S [c])) := by rw [sub_S, h1]; rfl
    rw [seq_next (env' := [.d false (.str x), .d false (.int q), .e]) (s' := s) (by
      rw [ifs_f (x := (.frz, .bool false)) (s' := s) (by simp [evE, evA, biF, cmpF, eqF_int, R.of]; omega) rfl]
      rfl)]
    by_cases hs : c ∈ tl SG
    · simp only [if_pos hs]
      refine congrArg endF (seq_ret ?_)
      rw [ifs_t (x := (.frz, .bool true)) (s' := s) (by simp [evE, evA, biF, cmpF, in1, R.of, e1, gS, hs]) rfl]
      simp [evS, evE, evA, noPeek, R.of, sizeL, e1]
    · simp only [if_neg hs]
      rw [seq_next (env' := [.d false (.str x), .d false (.int q), .e]) (s' := s) (by
        rw [ifs_f (x := (.frz, .bool false)) (s' := s) (by simp [evE, evA, biF, cmpF, in1, R.of, e1, gS, hs]) rfl]
        rfl)]
      have hr := run_ok k s x AL q hql
      rw [hl] at hr
      have ea : opF .Add (.str "abcdefghijklmnopqrstuvwxyz") (.str "0123456789") = some (.frz, .str AL) := by
        rw [opF_str, if_pos (by decide), al_eq]
      rw [seq_next (env' := [.d false (.str x), .d false (.int q), .d false (.int (q + runL AL (c :: r) : Nat))]) (s' := s) (by simp [evS, evE, evG, g2, g3, ea, R.of, hr, bindT, putE])]
      have hle : q + runL AL (c :: r) ≤ x.length := by
        have := runL_le AL (c :: r)
        rw [← hl, List.length_drop] at this
        have e : (tl x).length = x.length := rfl
        rw [hl] at this
        omega
      by_cases hw : 0 < runL AL (c :: r)
      · rw [if_pos hw]
        have ec := cut_S x hle (Nat.le_add_right q _)
        rw [hl, Nat.add_sub_cancel_left] at ec
        have ec : slF (.str x) (some (q : Int)) (some ((q + runL AL (c :: r) : Nat) : Int)) = some (.frz, .str (S ((c :: r).take (runL AL (c :: r))))) := by
          show some (Kd.frz, PyData.str (cutS x _ _)) = _
          rw [ec]
        have hgt : (q : Int) < (q + runL AL (c :: r) : Nat) := by omega
        refine congrArg endF (seq_ret ?_)
        rw [Int.natCast_add] at ec hgt
        simp [evS, evE, evA, evO, intPart, cmpF, i2F, truth, noPeek, R.of, sizeL, ec]
        rw [if_pos hgt]
        rfl
      · rw [if_neg hw]
        refine congrArg endF (seq_ret ?_)
        simp [evS, evE, evA, evO, intPart, cmpF, i2F, truth, noPeek, R.of, sizeL]
        rw [if_neg (by omega)]
        rfl
end K01
set_option maxHeartbeats 1000000
/-! K01R: lexemes, the law's and the program's. -/
namespace K01
open PySem PySem.Spec PyProof.Rows L2 Tre _root_.SX

def wordD (w : List Nat) (f : Nat) : D := .tuple [.str "word", .str (S w), .int f]
def signD (c : Nat) (p : Nat) : D := .tuple [.str "sign", .str (S [c]), .int p]
/-- character by character -/
def lx : List Nat → Nat → List D → List Nat → Nat → (List D) ⊕ Nat
  | [], _, found, _, _ => .inl found
  | c :: r, p, found, w, f => if c ∈ tl AL then lx r (p + 1) found (w ++ [c]) (if w = [] then p else f)
    else if c ∈ tl SG then lx r (p + 1) ((if w = [] then found else found ++ [wordD w f]) ++ [signD c p]) [] f
    else if c ∈ tl BL then lx r (p + 1) (if w = [] then found else found ++ [wordD w f]) [] f
    else .inr p
theorem blA {c : Nat} (h : c ∈ tl BL) : c ∉ tl AL := by
  have : ∀ c ∈ tl BL, c ∉ tl AL := by decide +kernel
  exact this c h
theorem blS {c : Nat} (h : c ∈ tl BL) : c ∉ tl SG := by
  have : ∀ c ∈ tl BL, c ∉ tl SG := by decide +kernel
  exact this c h
theorem sgA {c : Nat} (h : c ∈ tl SG) : c ∉ tl AL := by
  have : ∀ c ∈ tl SG, c ∉ tl AL := by decide +kernel
  exact this c h
theorem b32 : 32 ∈ tl BL := by decide +kernel
theorem lx_run : ∀ (u t : List Nat) (p : Nat) (found : List D) (w : List Nat) (f : Nat), (∀ c ∈ u, c ∈ tl AL) → w ≠ [] → lx (u ++ t) p found w f = lx t (p + u.length) found (w ++ u) f
  | [], t, p, found, w, f, _, _ => by simp
  | c :: u, t, p, found, w, f, h, hw => by
    rw [List.cons_append, lx, if_pos (h c List.mem_cons_self), if_neg hw, lx_run u t (p + 1) found (w ++ [c]) f (fun d hd => h d (List.mem_cons_of_mem _ hd)) (by simp), List.append_assoc, List.length_cons]
    congr 1
    omega
theorem lx_put {c : Nat} {r : List Nat} {p : Nat} {found : List D} {w : List Nat} {f g : Nat} (h : c ∉ tl AL) (hw : w ≠ []) : lx (c :: r) p found w f = lx (c :: r) p (found ++ [wordD w f]) [] f := by
  rw [lx, lx, if_neg h, if_neg h, if_neg hw, if_pos rfl]
/-- first doesn't matter while there is no word -/
theorem lx_first : ∀ (l : List Nat) (p : Nat) (found : List D) (f g : Nat), lx l p found [] f = lx l p found [] g
  | [], _, _, _, _ => rfl
  | c :: r, p, found, f, g => by
    rw [lx, lx]
    simp only [if_true]
    rw [lx_first r (p + 1) (found ++ [signD c p]) f g, lx_first r (p + 1) found f g]
theorem lf_blank {c : Nat} {r : List Nat} {p : Nat} (h : c ∈ tl BL) : lf (c :: r) p = lf r (p + 1) := by
  have e : runL BL (c :: r) = runL BL r + 1 := by
    unfold runL
    rw [List.takeWhile_cons_of_pos (by simpa using h)]
    rfl
  unfold lf
  rw [e, List.drop_succ_cons, show p + (runL BL r + 1) = p + 1 + runL BL r by omega]
theorem lf_cons {c : Nat} {r : List Nat} {p : Nat} (h : c ∉ tl BL) : lf (c :: r) p = if c ∈ tl SG then .tuple [.str "sign", .str (S [c]), .int p]
    else if 0 < runL AL (c :: r) then .tuple [.str "word", .str (S ((c :: r).take (runL AL (c :: r)))), .int p]
    else .tuple [.str "wrong", .str "", .int p] := by
  have e : runL BL (c :: r) = 0 := by
    unfold runL
    rw [List.takeWhile_cons_of_neg (by simpa using h)]
    rfl
  unfold lf
  rw [e]
  rfl
theorem mem_tw {p : Nat → Bool} {d : Nat} : ∀ {l : List Nat}, d ∈ l.takeWhile p → p d = true
  | [], h => by cases h
  | c :: r, h => by
    cases hp : p c with
    | true =>
      rw [List.takeWhile_cons_of_pos hp] at h
      rcases List.mem_cons.mp h with rfl | h
      · exact hp
      · exact mem_tw h
    | false =>
      rw [List.takeWhile_cons_of_neg (by rw [hp]; exact Bool.false_ne_true)] at h
      cases h
theorem take_run (z : Str) : ∀ (l : List Nat), l.take (runL z l) = l.takeWhile (fun c => decide (c ∈ tl z)) ∧ l.drop (runL z l) = l.dropWhile (fun c => decide (c ∈ tl z))
  | [] => ⟨rfl, rfl⟩
  | c :: r => by
    by_cases h : c ∈ tl z
    · have e : runL z (c :: r) = runL z r + 1 := by
        unfold runL
        rw [List.takeWhile_cons_of_pos (by simpa using h)]
        rfl
      obtain ⟨h1, h2⟩ := take_run z r
      rw [e, List.take_succ_cons, List.drop_succ_cons, h1, h2, List.takeWhile_cons_of_pos (by simpa using h), List.dropWhile_cons_of_pos (by simpa using h)]
      exact ⟨rfl, rfl⟩
    · have e : runL z (c :: r) = 0 := by
        unfold runL
        rw [List.takeWhile_cons_of_neg (by simpa using h)]
        rfl
      rw [e, List.takeWhile_cons_of_neg (by simpa using h), List.dropWhile_cons_of_neg (by simpa using h)]
      exact ⟨rfl, rfl⟩
/-- a word at once -/
theorem lx_word {c : Nat} {r : List Nat} {p : Nat} {found : List D} {f : Nat} (h : c ∈ tl AL) :
    lx (c :: r ++ [32]) p found [] f = lx (((c :: r).drop (runL AL (c :: r))) ++ [32]) (p + runL AL (c :: r)) (found ++ [wordD ((c :: r).take (runL AL (c :: r))) p]) [] p := by
  have e : runL AL (c :: r) = runL AL r + 1 := by
    unfold runL
    rw [List.takeWhile_cons_of_pos (by simpa using h)]
    rfl
  obtain ⟨h1, h2⟩ := take_run AL r
  rw [e, List.take_succ_cons, List.drop_succ_cons, List.cons_append, lx, if_pos h, if_pos rfl, List.nil_append]
  conv => lhs; rw [← List.take_append_drop (runL AL r) r, List.append_assoc]
  rw [lx_run _ _ _ _ _ _ (fun d hd => by
    rw [h1] at hd
    exact of_decide_eq_true (mem_tw hd)) (by simp)]
  have hl : (r.take (runL AL r)).length = runL AL r := List.length_take_of_le (runL_le AL r)
  rw [hl, show p + 1 + runL AL r = p + (runL AL r + 1) by omega]
  show lx _ _ found (c :: r.take (runL AL r)) p = _
  cases q : r.drop (runL AL r) with
  | nil => exact lx_put (g := 0) (blA b32) (by simp)
  | cons d t =>
    rw [List.cons_append]
    refine lx_put (g := 0) ?_ (by simp)
    rw [h2] at q
    have := List.head?_dropWhile_not (fun c => decide (c ∈ tl AL)) r
    rw [q] at this
    simpa using this
def lmC : T := (.cmp .NotEq (.sub (.v 2) (.c (.int 0))) (.c (.str "end")))
def lmB : T := (.seq (.ifs (.cmp .Eq (.sub (.v 2) (.c (.int 0))) (.c (.str "wrong"))) (.seq (.raise 0 1 (.cons (.sub (.v 2) (.c (.int 2))) .nil)) .nil) .nil) (.seq (.app 1 (.v 2)) (.seq (.asg (.v 2) (.call 1 (.cons (.v 0) (.cons (.op .Add (.sub (.v 2) (.c (.int 2))) (.bi .len (.cons (.sub (.v 2) (.c (.int 1))) .nil))) .nil)))) .nil)))
def lmE (x : Str) (found : List D) (h : D) : Tre.Env := [.d false (.str x), .d true (.list found), .d false h]
theorem at0 (a b c : D) : subF (.tuple [a, b, c]) (.int 0) = some a := rfl
theorem at1 (a b c : D) : subF (.tuple [a, b, c]) (.int 1) = some b := rfl
theorem at2 (a b c : D) : subF (.tuple [a, b, c]) (.int 2) = some c := rfl
/-- one more lexeme -/
theorem lm_step {k : Nat} {x : Str} {s : Src} {found : List D} {a y : Str} {p : Nat} {r : R Fl} (h1 : a ≠ "end") (h2 : a ≠ "wrong") (hf : found.length < sizeLine) (hp : p + y.length ≤ x.length)
    (h : evS (Ph (k + 2)) G (.wh [] lmC lmB) (lmE x (found ++ [.tuple [.str a, .str y, .int p]]) (lf ((tl x).drop (p + y.length)) (p + y.length))) s = r) :
    evS (Ph (k + 2)) G (.wh [] lmC lmB) (lmE x found (.tuple [.str a, .str y, .int p])) s = r := by
  rw [← h]
  simp only [evS]
  have b1 : (a == ("end" : Str)) = false := beq_false_of_ne h1
  have b2 : (a == ("wrong" : Str)) = false := beq_false_of_ne h2
  have hl := lf_ok k s x (p + y.length) hp
  rw [Int.natCast_add] at hl
  refine whR_next (d := .bool true) (s1 := s) ?_ rfl ?_
  · unfold lmC fzE lmE
    simp [evE, at0, cmpF, eqF_str, R.of, b1]
  · unfold lmB fzE lmE
    rw [seq_next (env' := [.d false (.str x), .d true (.list found), .d false (.tuple [.str a, .str y, .int p])]) (s' := s) (by
      rw [ifs_f (x := (.frz, .bool false)) (s' := s) (by simp [evE, at0, cmpF, eqF_str, R.of, b2]) rfl]
      rfl)]
    rw [seq_next (env' := [.d false (.str x), .d true (.list (found ++ [.tuple [.str a, .str y, .int p]])), .d false (.tuple [.str a, .str y, .int p])]) (s' := s) (by simp [evS, evE, ownL, hf])]
    simp [evS, evE, evG, evA, at1, at2, biF, opF, R.of, hl, bindT, putE]
theorem lm_loop (k : Nat) (x : Str) (s : Src) (hx : x.length ≤ 1000) : ∀ (n : Nat) (l : List Nat) (p : Nat) (found : List D) (f : Nat), l.length ≤ n → (tl x).drop p = l → p ≤ x.length → found.length ≤ p →
    (∀ fd, lx (l ++ [32]) p found [] f = .inl fd → ∃ v, evS (Ph (k + 2)) G (.wh [] lmC lmB) (lmE x found (lf l p)) s = .ok (.next [.d false (.str x), .d true (.list fd), v]) s) ∧
    (∀ q, lx (l ++ [32]) p found [] f = .inr q → evS (Ph (k + 2)) G (.wh [] lmC lmB) (lmE x found (lf l p)) s = .exc 0 [.int q] s) := by
  intro n
  induction n with
  | zero =>
    intro l p found f hn hd hp hf
    obtain rfl : l = [] := List.eq_nil_of_length_eq_zero (by omega)
    have e : lx ([] ++ [32]) p found [] f = .inl found := by
      rw [List.nil_append, lx, if_neg (blA b32), if_neg (blS b32), if_pos b32, if_pos rfl]
      rfl
    rw [e]
    refine ⟨fun fd z => ?_, fun q z => by cases z⟩
    cases z
    refine ⟨.d false (lf [] p), ?_⟩
    simp only [evS]
    refine whR_end (d := .bool false) ?_ rfl
    unfold lmC fzE lmE lf
    simp [evE, cmpF, eqF_str, R.of, runL, at0]
  | succ n ih =>
    intro l p found f hn hd hp hf
    cases l with
    | nil => exact ih [] p found f (by simp) hd hp hf
    | cons c r =>
      obtain ⟨h1, h2, h3⟩ := drop_cons hd
      have hn : r.length ≤ n := by simpa using hn
      by_cases cb : c ∈ tl BL
      · rw [lf_blank cb, List.cons_append, lx, if_neg (blA cb), if_neg (blS cb), if_pos cb, if_pos rfl]
        exact ih r (p + 1) found f hn h2 h3 (by omega)
      · by_cases cs : c ∈ tl SG
        · have i := ih r (p + 1) (found ++ [signD c p]) f hn h2 h3 (by simp; omega)
          rw [lf_cons cb, if_pos cs, List.cons_append, lx, if_neg (sgA cs), if_pos cs, if_pos rfl]
          have st : ∀ {r : R Fl}, evS (Ph (k + 2)) G (.wh [] lmC lmB) (lmE x (found ++ [signD c p]) (lf ((tl x).drop (p + 1)) (p + 1))) s = r → evS (Ph (k + 2)) G (.wh [] lmC lmB) (lmE x found (.tuple [.str "sign", .str (S [c]), .int p])) s = r :=
            fun {r} h => lm_step (y := S [c]) (by decide +kernel) (by decide +kernel) (by rw [sizeL]; omega) h3 h
          rw [h2] at st
          refine ⟨fun fd z => ?_, fun q z => st (i.2 q z)⟩
          obtain ⟨v, e⟩ := i.1 fd z
          exact ⟨v, st e⟩
        · by_cases ca : c ∈ tl AL
          · have hr0 : 0 < runL AL (c :: r) := by
              unfold runL
              rw [List.takeWhile_cons_of_pos (by simpa using ca)]
              simp
            have hrl := runL_le AL (c :: r)
            have hlen : ((tl x).drop p).length = x.length - p := List.length_drop
            rw [hd] at hlen
            have hlt : ((c :: r).take (runL AL (c :: r))).length = runL AL (c :: r) := List.length_take_of_le hrl
            have hd2 : (tl x).drop (p + runL AL (c :: r)) = (c :: r).drop (runL AL (c :: r)) := by rw [← hd, List.drop_drop]
            have hp2 : p + runL AL (c :: r) ≤ x.length := by omega
            have i := ih ((c :: r).drop (runL AL (c :: r))) (p + runL AL (c :: r)) (found ++ [wordD ((c :: r).take (runL AL (c :: r))) p]) p (by rw [List.length_drop, List.length_cons]; omega) hd2 hp2 (by simp; omega)
            rw [lf_cons cb, if_neg cs, if_pos hr0, lx_word ca]
            have st : ∀ {r' : R Fl}, evS (Ph (k + 2)) G (.wh [] lmC lmB) (lmE x (found ++ [wordD ((c :: r).take (runL AL (c :: r))) p]) (lf ((tl x).drop (p + runL AL (c :: r))) (p + runL AL (c :: r)))) s = r' → evS (Ph (k + 2)) G (.wh [] lmC lmB) (lmE x found (.tuple [.str "word", .str (S ((c :: r).take (runL AL (c :: r)))), .int p])) s = r' :=
              fun {r'} h => lm_step (y := S ((c :: r).take (runL AL (c :: r)))) (by decide +kernel) (by decide +kernel) (by rw [sizeL]; omega) (by rw [S_len, hlt]; exact hp2) (by rw [S_len, hlt]; exact h)
            rw [hd2] at st
            refine ⟨fun fd z => ?_, fun q z => st (i.2 q z)⟩
            obtain ⟨v, e⟩ := i.1 fd z
            exact ⟨v, st e⟩
          · have hr0 : ¬ 0 < runL AL (c :: r) := by
              unfold runL
              rw [List.takeWhile_cons_of_neg (by simpa using ca)]
              simp
            rw [lf_cons cb, if_neg cs, if_neg hr0, List.cons_append, lx, if_neg ca, if_neg cs, if_neg cb]
            refine ⟨fun fd z => (by cases z), fun q z => ?_⟩
            obtain rfl : p = q := by simpa using z
            simp only [evS]
            refine whR_out (d := .bool true) (s1 := s) ?_ rfl ?_
            · unfold lmC fzE lmE
              have b1 : (("wrong" : Str) == ("end" : Str)) = false := by decide +kernel
              simp [evE, at0, cmpF, eqF_str, R.of, b1]
            · unfold lmB fzE lmE
              refine seq_exc ?_
              rw [ifs_t (x := (.frz, .bool true)) (s' := s) (by simp [evE, at0, cmpF, eqF_str, R.of]) rfl]
              refine seq_exc ?_
              simp [evS, evA, evE, at2, R.of, scalOf]
end K01
set_option maxHeartbeats 1000000
/-! K01S: both lexers. -/
namespace K01
open PySem PySem.Spec PyProof.Rows L2 Tre _root_.SX

theorem lexemes_ok (k : Nat) (s : Src) (x : Str) (hx : x.length ≤ 1000) :
    (∀ fd, lx (tl x ++ [32]) 0 [] [] 0 = .inl fd → Ph (k + 3) 2 [.d (.str x)] s = .ok (true, .list fd) s) ∧ (∀ q, lx (tl x ++ [32]) 0 [] [] 0 = .inr q → Ph (k + 3) 2 [.d (.str x)] s = .exc 0 [.int q] s) := by
  have i := lm_loop k x s hx (tl x).length (tl x) 0 [] 0 (Nat.le_refl _) (by simp) (Nat.zero_le _) (by simp)
  have hl := lf_ok k s x 0 (Nat.zero_le _)
  rw [List.drop_zero] at hl
  have hl : Ph (k + 2) 1 [.d (.str x), .d (.int 0)] s = .ok (false, lf (tl x) 0) s := hl
  have st : evS (Ph (k + 2)) G b_lexemes [.d false (.str x), .e, .e] s = evS (Ph (k + 2)) G (.seq (.wh [] lmC lmB) (.seq (.retv 1) .nil)) (lmE x [] (lf (tl x) 0)) s := by
    unfold b_lexemes
    rw [seq_next (env' := lmE x [] (lf (tl x) 0)) (s' := s) (by simp [evS, evE, evA, evG, noPeek, R.of, bindP, bindT, putE, hl, lmE])]
    rfl
  refine ⟨fun fd z => ?_, fun q z => ?_⟩
  · obtain ⟨v, e⟩ := i.1 fd z
    show endF (evS (Ph (k + 2)) G b_lexemes [.d false (.str x), .e, .e] s) = _
    rw [st, seq_next e]
    rfl
  · show endF (evS (Ph (k + 2)) G b_lexemes [.d false (.str x), .e, .e] s) = _
    rw [st, seq_exc (i.2 q z)]
    rfl

/-! ### the law's -/
def lwT : T := (.tup (.cons (.v 4) (.cons (.v 5) .nil)))
def lwB : T := (.seq (.ifs (.cmp .In (.v 5) (.c (.str "abcdefghijklmnopqrstuvwxyz0123456789"))) (.seq (.asg (.v 3) (.ife (.cmp .Eq (.v 2) (.c (.str ""))) (.v 4) (.v 3))) (.seq (.asg (.v 2) (.op .Add (.v 2) (.v 5))) (.seq .cnt .nil))) .nil) (.seq (.ifs (.cmp .NotEq (.v 2) (.c (.str ""))) (.seq (.app 1 (.tup (.cons (.c (.str "word")) (.cons (.v 2) (.cons (.v 3) .nil))))) (.seq (.asg (.v 2) (.c (.str ""))) .nil)) .nil) (.seq (.ifs (.cmp .In (.v 5) (.c (.str "(),:;=+"))) (.seq (.app 1 (.tup (.cons (.c (.str "sign")) (.cons (.v 5) (.cons (.v 4) .nil))))) .nil) (.seq (.ifs (.cmp .NotIn (.v 5) (.c (.str " \n"))) (.seq (.ret (.tup (.cons (.c (.str "wrong")) (.cons (.v 4) .nil)))) .nil) .nil) .nil)) .nil)))
def lwE (x : Str) (found : List D) (w : List Nat) (f : Nat) (a b : Slot) : Tre.Env := [.d false (.str x), .d true (.list found), .d false (.str (S w)), .d false (.int f), a, b]
noncomputable def lwF (k : Nat) : D → Tre.Env → Src → R Fl := fun x env s => (R.of (bindT lwT (.frz, x) env) s).bind fun env' s => evS (Ph k) G lwB env' s
theorem nil_S : (Str.ofString "" : Str) = S [] := rfl
theorem emp_S (w : List Nat) : (S w == (Str.ofString "" : Str)) = decide (w = []) := S_beq_eq
theorem bind45 {x : Str} {found : List D} {w : List Nat} {f : Nat} {a b : Slot} {p : Nat} {y : Str} : bindT lwT (.frz, .tuple [.int p, .str y]) (lwE x found w f a b) = some (lwE x found w f (.d false (.int p)) (.d false (.str y))) := by
  unfold lwT lwE
  simp [bindT, putE]
theorem lw_al {k : Nat} {x : Str} {found : List D} {w : List Nat} {f : Nat} {a b : Slot} {p c : Nat} {s : Src} (hc : c ∈ tl AL) (hw : w.length < 10000) :
    lwF k (.tuple [.int p, .str (S [c])]) (lwE x found w f a b) s = .ok (.cnt (lwE x found (w ++ [c]) (if w = [] then p else f) (.d false (.int p)) (.d false (.str (S [c]))))) s := by
  unfold lwF
  rw [bind45, R.of_some, R.bind_ok]
  unfold lwB lwE
  refine seq_cnt ?_
  rw [ifs_t (x := (.frz, .bool true)) (s' := s) (by simp [evE, cmpF, in1, R.of, hc]) rfl]
  have e2 : opF .Add (.str (S w)) (.str (S [c])) = some (.frz, .str (S (w ++ [c]))) := by
    rw [opF_str, if_pos (by rw [S_len, S_len, sizeL]; simp; omega), app_S]
  by_cases h : w = []
  · rw [if_pos h]
    rw [seq_next (env' := [.d false (.str x), .d true (.list found), .d false (.str (S w)), .d false (.int p), .d false (.int p), .d false (.str (S [c]))]) (s' := s) (by simp [evS, evE, cmpF, eqF_str, emp_S, truth, R.of, h, bindT, putE])]
    simp [evS, evE, e2, R.of, bindT, putE]
  · rw [if_neg h]
    rw [seq_next (env' := [.d false (.str x), .d true (.list found), .d false (.str (S w)), .d false (.int f), .d false (.int p), .d false (.str (S [c]))]) (s' := s) (by simp [evS, evE, cmpF, eqF_str, emp_S, truth, R.of, h, bindT, putE])]
    simp [evS, evE, e2, R.of, bindT, putE]
/-- the signs that are in no word -/
theorem lw_no {k : Nat} {x : Str} {found : List D} {w : List Nat} {f : Nat} {a b : Slot} {p c : Nat} {s : Src} {r : R Fl} (hc : c ∉ tl AL) (hf : found.length < 10000)
    (h : evS (Ph k) G (.seq (.ifs (.cmp .In (.v 5) (.c (.str "(),:;=+"))) (.seq (.app 1 (.tup (.cons (.c (.str "sign")) (.cons (.v 5) (.cons (.v 4) .nil))))) .nil) (.seq (.ifs (.cmp .NotIn (.v 5) (.c (.str " \n"))) (.seq (.ret (.tup (.cons (.c (.str "wrong")) (.cons (.v 4) .nil)))) .nil) .nil) .nil)) .nil)
      (lwE x (if w = [] then found else found ++ [wordD w f]) [] f (.d false (.int p)) (.d false (.str (S [c])))) s = r) : lwF k (.tuple [.int p, .str (S [c])]) (lwE x found w f a b) s = r := by
  rw [← h]
  unfold lwF
  rw [bind45, R.of_some, R.bind_ok]
  unfold lwB
  rw [seq_next (env' := lwE x found w f (.d false (.int p)) (.d false (.str (S [c])))) (s' := s) (by
    rw [ifs_f (x := (.frz, .bool false)) (s' := s) (by unfold lwE; simp [evE, cmpF, in1, R.of, hc]) rfl]
    rfl)]
  refine seq_next ?_
  by_cases h : w = []
  · rw [if_pos h, ifs_f (x := (.frz, .bool false)) (s' := s) (by unfold lwE; simp [evE, cmpF, eqF_str, emp_S, R.of, h]) rfl]
    subst h
    rfl
  · rw [if_neg h, ifs_t (x := (.frz, .bool true)) (s' := s) (by unfold lwE; simp [evE, cmpF, eqF_str, emp_S, R.of, h]) rfl]
    unfold lwE wordD
    simp [evS, evE, evA, noPeek, ownL, R.of, bindT, putE, sizeL, show found.length < 16777216 by omega]
    rfl
theorem lw_sg {k : Nat} {x : Str} {found : List D} {w : List Nat} {f : Nat} {a b : Slot} {p c : Nat} {s : Src} (hc : c ∉ tl AL) (hs : c ∈ tl SG) (hf : found.length < 10000) :
    lwF k (.tuple [.int p, .str (S [c])]) (lwE x found w f a b) s = .ok (.next (lwE x ((if w = [] then found else found ++ [wordD w f]) ++ [signD c p]) [] f (.d false (.int p)) (.d false (.str (S [c]))))) s := by
  refine lw_no hc hf ?_
  generalize hfd : (if w = [] then found else found ++ [wordD w f]) = fd
  have hl : fd.length ≤ found.length + 1 := by
    rw [← hfd]
    split
    · omega
    · simp
  rw [seq_next (env' := lwE x (fd ++ [signD c p]) [] f (.d false (.int p)) (.d false (.str (S [c])))) (s' := s)]
  · rfl
  rw [ifs_t (x := (.frz, .bool true)) (s' := s) (by unfold lwE; simp [evE, cmpF, in1, R.of, hs]) rfl]
  unfold lwE signD
  simp [evS, evE, evA, noPeek, ownL, R.of, bindT, putE, sizeL, show fd.length < 16777216 by omega]
theorem lw_bl {k : Nat} {x : Str} {found : List D} {w : List Nat} {f : Nat} {a b : Slot} {p c : Nat} {s : Src} (hb : c ∈ tl BL) (hf : found.length < 10000) :
    lwF k (.tuple [.int p, .str (S [c])]) (lwE x found w f a b) s = .ok (.next (lwE x (if w = [] then found else found ++ [wordD w f]) [] f (.d false (.int p)) (.d false (.str (S [c]))))) s := by
  refine lw_no (blA hb) hf ?_
  rw [seq_next (env' := lwE x (if w = [] then found else found ++ [wordD w f]) [] f (.d false (.int p)) (.d false (.str (S [c])))) (s' := s)]
  · rfl
  rw [ifs_f (x := (.frz, .bool false)) (s' := s) (by unfold lwE; simp [evE, cmpF, in1, R.of, blS hb]) rfl]
  refine seq_next ?_
  rw [ifs_f (x := (.frz, .bool false)) (s' := s) (by unfold lwE; simp [evE, cmpF, in1, R.of, hb]) rfl]
  rfl
theorem lw_wr {k : Nat} {x : Str} {found : List D} {w : List Nat} {f : Nat} {a b : Slot} {p c : Nat} {s : Src} (hc : c ∉ tl AL) (hs : c ∉ tl SG) (hb : c ∉ tl BL) (hf : found.length < 10000) :
    lwF k (.tuple [.int p, .str (S [c])]) (lwE x found w f a b) s = .ok (.ret false (.tuple [.str "wrong", .int p])) s := by
  refine lw_no hc hf (seq_ret ?_)
  rw [ifs_f (x := (.frz, .bool false)) (s' := s) (by unfold lwE; simp [evE, cmpF, in1, R.of, hs]) rfl]
  refine seq_ret ?_
  rw [ifs_t (x := (.frz, .bool true)) (s' := s) (by unfold lwE; simp [evE, cmpF, in1, R.of, hb]) rfl]
  refine seq_ret ?_
  unfold lwE
  simp [evS, evE, evA, noPeek, R.of, sizeL]
def sgs (l : List Nat) : List D := l.map fun c => .str (S [c])
theorem lw_loop (k : Nat) (x : Str) (s : Src) : ∀ (l : List Nat) (p : Nat) (found : List D) (w : List Nat) (f : Nat) (a b : Slot), p + l.length ≤ 2000 → found.length ≤ 2 * p → w.length ≤ p →
    (∀ fd, lx l p found w f = .inl fd → ∃ w' f' a' b', forL (lwF k) (enuD p (sgs l)) (lwE x found w f a b) s = .ok (.next (lwE x fd w' f' a' b')) s) ∧
    (∀ q, lx l p found w f = .inr q → forL (lwF k) (enuD p (sgs l)) (lwE x found w f a b) s = .ok (.ret false (.tuple [.str "wrong", .int q])) s)
  | [], p, found, w, f, a, b, _, _, _ => ⟨fun fd z => by cases z; exact ⟨w, f, a, b, rfl⟩, fun q z => by cases z⟩
  | c :: r, p, found, w, f, a, b, hl, hf, hw => by
    have hl : p + (r.length + 1) ≤ 2000 := hl
    have e : enuD p (sgs (c :: r)) = .tuple [.int p, .str (S [c])] :: enuD (p + 1) (sgs r) := rfl
    rw [e, forL, lx]
    generalize hfd : (if w = [] then found else found ++ [wordD w f]) = fd'
    have hl' : fd'.length ≤ found.length + 1 := by
      rw [← hfd]
      split
      · omega
      · simp
    by_cases ca : c ∈ tl AL
    · rw [if_pos ca, lw_al ca (by omega), R.bind_ok]
      exact lw_loop k x s r (p + 1) found (w ++ [c]) _ _ _ (by omega) (by omega) (by simp; omega)
    · rw [if_neg ca]
      by_cases cs : c ∈ tl SG
      · rw [if_pos cs, lw_sg ca cs (by omega), R.bind_ok, hfd]
        exact lw_loop k x s r (p + 1) (fd' ++ [signD c p]) [] f _ _ (by omega) (by simp; omega) (by simp)
      · rw [if_neg cs]
        by_cases cb : c ∈ tl BL
        · rw [if_pos cb, lw_bl cb (by omega), R.bind_ok, hfd]
          exact lw_loop k x s r (p + 1) fd' [] f _ _ (by omega) (by omega) (by simp)
        · rw [if_neg cb, lw_wr ca cs cb (by omega), R.bind_ok]
          exact ⟨fun fd z => (by cases z), fun q z => (by cases z; rfl)⟩
theorem lexed_ok (k : Nat) (s : Src) (x : Str) (hx : x.length ≤ 1000) :
    (∀ fd, lx (tl x ++ [32]) 0 [] [] 0 = .inl fd → Ph (k + 1) 11 [.d (.str x)] s = .ok (false, .tuple [.str "told", .list fd]) s) ∧ (∀ q, lx (tl x ++ [32]) 0 [] [] 0 = .inr q → Ph (k + 1) 11 [.d (.str x)] s = .ok (false, .tuple [.str "wrong", .int q]) s) := by
  have hlen : (tl x).length = x.length := rfl
  have i := lw_loop k x s (tl x ++ [32]) 0 [] [] 0 .e .e (by rw [List.length_append, hlen]; simp; omega) (by simp) (by simp)
  have e0 : opF .Add (.str x) (.str " ") = some (.frz, .str (x ++ S [32])) := by
    rw [opF_str, if_pos (by rw [sizeL]; show x.length + 1 ≤ _; omega)]
    rfl
  have e1 : enF (.str (x ++ S [32])) = some (enuD 0 (sgs (tl x ++ [32]))) := by
    show some (enuD 0 (signsD (x ++ S [32]))) = _
    have : signsD (x ++ S [32]) = sgs (tl x ++ [32]) := by
      show ((x ++ S [32]).cps.toList.map fun c => PyData.str ⟨#[c]⟩) = _
      have e2 : (x ++ S [32]).cps.toList = tl x ++ [32] := tl_app x (S [32])
      rw [e2]
      rfl
    rw [this]
  have st : evS (Ph k) G b__law_lexed [.d false (.str x), .e, .e, .e, .e, .e] s = (forL (lwF k) (enuD 0 (sgs (tl x ++ [32]))) (lwE x [] [] 0 .e .e) s).bind fun fl s1 => (match fl with
      | .next env' => evS (Ph k) G (.fz [1] (.seq (.ret (.tup (.cons (.c (.str "told")) (.cons (.v 1) .nil)))) .nil)) env' s1
      | fl => .ok fl s1) := by
    unfold b__law_lexed
    rw [seq_next (env' := lwE x [] [] 0 .e .e) (s' := s) (by simp [evS, evE, evA, noPeek, R.of, bindP, bindT, putE, lwE, nil_S])]
    have e3 : evI (Ph k) G (.enu (.op .Add (.v 0) (.c (.str " ")))) (lwE x [] [] 0 .e .e) s = .ok (false, enuD 0 (sgs (tl x ++ [32]))) s := by
      unfold lwE
      simp [evI, evE, R.of, e0, e1]
    have e4 : fzE (lwE x [] [] 0 .e .e) [2, 3] = lwE x [] [] 0 .e .e := rfl
    simp only [evS]
    rw [e4, e3]
    rfl
  refine ⟨fun fd z => ?_, fun q z => ?_⟩
  · obtain ⟨w', f', a', b', e⟩ := i.1 fd z
    show endF (evS (Ph k) G b__law_lexed [.d false (.str x), .e, .e, .e, .e, .e] s) = _
    rw [st, e, R.bind_ok]
    unfold lwE
    simp [evS, evE, evA, noPeek, R.of, fzE, sizeL]
    rfl
  · show endF (evS (Ph k) G b__law_lexed [.d false (.str x), .e, .e, .e, .e, .e] s) = _
    rw [st, i.2 q z]
    rfl
end K01
set_option maxHeartbeats 1000000
/-! K01U: names, labels, beginnings of anything. -/
namespace K01
open PySem PySem.Spec PyProof.Rows L2 Tre _root_.SX

theorem gN : G 4 = some (.int 12) ∧ G 5 = some (.int 4) ∧ G 6 = some (.int 20) ∧ G 7 = some (.int 200) := ⟨rfl, rfl, rfl, rfl⟩
theorem g2 : G 2 = some (.str "abcdefghijklmnopqrstuvwxyz") := rfl
theorem g3 : G 3 = some (.str "0123456789") := rfl
def isNum : D → Bool
  | .int i => decide (0 ≤ i) && decide (i ≤ 4)
  | _ => false
theorem num_p (k : Nat) (s : Src) (v : D) : Ph (k + 1) 4 [.d v, .d (.int 0), .d (.int 4)] s = .ok (false, .bool (isNum v)) s := by
  show endF (evS (Ph k) G b_is_between [.d false v, .d false (.int 0), .d false (.int 4)] s) = _
  unfold b_is_between
  cases v with
  | int i =>
    by_cases h : 0 ≤ i
    · simp [evS, evE, isiF, cmpF, i2F, truth, R.of, isNum, h]; rfl
    · simp [evS, evE, isiF, cmpF, i2F, truth, R.of, isNum, h]; rfl
  | _ => simp [evS, evE, isiF, truth, isNum]; rfl
theorem num_l (k : Nat) (s : Src) (v : D) : Ph (k + 1) 13 [.d v] s = .ok (false, .bool (isNum v)) s := by
  show endF (evS (Ph k) G b__law_number [.d false v] s) = _
  unfold b__law_number
  cases v with
  | int i =>
    have e : decide (i < 5) = decide (i ≤ 4) := by rw [decide_eq_decide]; omega
    by_cases h : 0 ≤ i
    · simp [evS, evE, isiF, cmpF, i2F, truth, R.of, isNum, h, e]; rfl
    · simp [evS, evE, isiF, cmpF, i2F, truth, R.of, isNum, h, e]; rfl
  | _ => simp [evS, evE, isiF, truth, isNum]; rfl
def isLab : D → Bool
  | .tuple xs => decide (0 < xs.length) && decide (xs.length ≤ 20) && xs.all isNum
  | _ => false
def allB (xs : List D) (g : D → Bool) : Bool := xs.all g
theorem all_ok (xs : List D) (g : D → Bool) : biF .all [.list (xs.map fun x => .bool (g x))] = some (.frz, .bool (xs.all g)) := by
  show (boolsOf _).map _ = _
  rw [boolsOf_map]
  simp [List.all_map, Function.comp_def]
theorem filter_true (xs : List D) (g : D → D) : (xs.filter fun _ => true).map g = xs.map g := by rw [List.filter_eq_self.mpr fun _ _ => rfl]
theorem lab_p (k : Nat) (s : Src) (v : D) : Ph (k + 2) 5 [.d v] s = .ok (false, .bool (isLab v)) s := by
  show endF (evS (Ph (k + 1)) G b_is_label [.d false v, .e] s) = _
  unfold b_is_label
  obtain ⟨_, q5, q6, _⟩ := gN
  cases v with
  | tuple xs =>
    by_cases h : 0 < xs.length ∧ xs.length ≤ 20
    · obtain ⟨h1, h2⟩ := h
      rw [seq_next (env' := [.d false (.tuple xs), .e]) (s' := s) (by
        rw [ifs_f (x := (.frz, .bool false)) (s' := s) (by simp [evE, evA, isiF, biF, cmpF, i2F, truth, R.of, q6, h1]; omega) rfl]
        rfl)]
      have lc := lc_gen (Φ := Ph (k + 1)) (Gg := G) (tg := .v 1) (it := .it (.v 0)) (cond := .c (.bool true)) (elt := .call 4 (.cons (.v 1) (.cons (.c (.int 0)) (.cons (.g 5) .nil)))) (ws := [1]) (env := [.d false (.tuple xs), .e]) (s := s) (s1 := s) (pk := false) (xs := xs) (p := fun _ => true) (g := fun x => .bool (isNum x))
        (by simp [evI, evE, itF, R.of]) (by rw [sizeL]; omega) (fun x hx => ⟨[.d false (.tuple xs), .d false x], by simp [bindT, putE, klE], ⟨_, rfl⟩, fun _ => ⟨.frz, by decide, by simp [evE, evG, R.of, q5, num_p]⟩⟩)
      rw [filter_true] at lc
      have e : isLab (.tuple xs) = xs.all isNum := by simp [isLab, h1, h2]
      rw [e]
      refine congrArg endF (seq_ret ?_)
      exact ret_e (bi1 lc (all_ok xs isNum))
    · have e : isLab (.tuple xs) = false := by
        simp only [isLab, Bool.and_eq_false_iff, decide_eq_false_iff_not]
        left
        by_cases h1 : 0 < xs.length
        · exact .inr fun z => h ⟨h1, z⟩
        · exact .inl h1
      rw [e]
      refine congrArg endF (seq_ret ?_)
      rw [ifs_t (x := (.frz, .bool true)) (s' := s) ?_ rfl]
      · simp [evS, evE]
      · by_cases h1 : 0 < xs.length
        · have h2 : 20 < xs.length := Nat.lt_of_not_le fun z => h ⟨h1, z⟩
          simp [evE, evA, isiF, biF, cmpF, i2F, truth, R.of, q6, h1]; omega
        · simp [evE, evA, isiF, biF, cmpF, i2F, truth, R.of, q6, h1]
  | _ =>
    refine congrArg endF (seq_ret ?_)
    rw [ifs_t (x := (.frz, .bool true)) (s' := s) (by simp [evE, isiF, truth]) rfl]
    simp [evS, evE, isLab]
theorem lab_l (k : Nat) (s : Src) (v : D) : Ph (k + 2) 14 [.d v] s = .ok (false, .bool (isLab v)) s := by
  show endF (evS (Ph (k + 1)) G b__law_is_label [.d false v, .e] s) = _
  unfold b__law_is_label
  cases v with
  | tuple xs =>
    by_cases h : 0 < xs.length ∧ xs.length ≤ 20
    · obtain ⟨h1, h2⟩ := h
      rw [seq_next (env' := [.d false (.tuple xs), .e]) (s' := s) (by
        rw [ifs_f (x := (.frz, .bool false)) (s' := s) (by simp [evE, evA, isiF, biF, cmpF, i2F, truth, R.of, h1]; omega) rfl]
        rfl)]
      have lc := lc_gen (Φ := Ph (k + 1)) (Gg := G) (tg := .v 1) (it := .it (.v 0)) (cond := .not (.call 13 (.cons (.v 1) .nil))) (elt := .v 1) (ws := [1]) (env := [.d false (.tuple xs), .e]) (s := s) (s1 := s) (pk := false) (xs := xs) (p := fun x => !isNum x) (g := fun x => x)
        (by simp [evI, evE, itF, R.of]) (by rw [sizeL]; omega) (fun x hx => ⟨[.d false (.tuple xs), .d false x], by simp [bindT, putE, klE], ⟨.frz, by simp [evE, evG, R.of, num_l, truth]⟩, fun _ => ⟨.frz, by decide, by simp [evE]⟩⟩)
      rw [List.map_id'] at lc
      have e : isLab (.tuple xs) = (xs.filter fun x => !isNum x).isEmpty := by
        simp only [isLab, h1, h2, decide_true, Bool.true_and]
        rw [Bool.eq_iff_iff, List.isEmpty_iff, List.filter_eq_nil_iff, List.all_eq_true]
        simp
      rw [e]
      refine congrArg endF (seq_ret ?_)
      exact ret_e (cmp_e (o := .Eq) (y := (.own, .list [])) lc (by simp [evE, evA, noPeek, R.of]) (eqF_nil _))
    · have e : isLab (.tuple xs) = false := by
        simp only [isLab, Bool.and_eq_false_iff, decide_eq_false_iff_not]
        left
        by_cases h1 : 0 < xs.length
        · exact .inr fun z => h ⟨h1, z⟩
        · exact .inl h1
      rw [e]
      refine congrArg endF (seq_ret ?_)
      rw [ifs_t (x := (.frz, .bool true)) (s' := s) ?_ rfl]
      · simp [evS, evE]
      · by_cases h1 : 0 < xs.length
        · have h2 : 20 < xs.length := Nat.lt_of_not_le fun z => h ⟨h1, z⟩
          simp [evE, evA, isiF, biF, cmpF, i2F, truth, R.of, h1]; omega
        · simp [evE, evA, isiF, biF, cmpF, i2F, truth, R.of, h1]
  | _ =>
    refine congrArg endF (seq_ret ?_)
    rw [ifs_t (x := (.frz, .bool true)) (s' := s) (by simp [evE, isiF, truth]) rfl]
    simp [evS, evE, isLab]
def isBeg : D → Bool
  | .tuple xs => decide (xs.length ≤ 200) && xs.all isLab
  | _ => false
theorem beg_p (k : Nat) (s : Src) (v : D) : Ph (k + 3) 6 [.d v] s = .ok (false, .bool (isBeg v)) s := by
  show endF (evS (Ph (k + 2)) G b_is_beginning [.d false v, .e] s) = _
  unfold b_is_beginning
  obtain ⟨_, _, _, q7⟩ := gN
  refine congrArg endF (seq_ret ?_)
  cases v with
  | tuple xs =>
    refine (ret_e (k := .frz) (d := .bool (isBeg (.tuple xs))) (s1 := s) ?_)
    rw [and_t (x := (.frz, .bool true)) (s1 := s) (by simp [evE, isiF]) rfl]
    by_cases h : xs.length ≤ 200
    · rw [and_t (x := (.frz, .bool true)) (s1 := s) (by simp [evE, evA, biF, cmpF, i2F, R.of, q7]; omega) rfl]
      have lc := lc_gen (Φ := Ph (k + 2)) (Gg := G) (tg := .v 1) (it := .it (.v 0)) (cond := .c (.bool true)) (elt := .call 5 (.cons (.v 1) .nil)) (ws := [1]) (env := [.d false (.tuple xs), .e]) (s := s) (s1 := s) (pk := false) (xs := xs) (p := fun _ => true) (g := fun x => .bool (isLab x))
        (by simp [evI, evE, itF, R.of]) (by rw [sizeL]; omega) (fun x hx => ⟨[.d false (.tuple xs), .d false x], by simp [bindT, putE, klE], ⟨_, rfl⟩, fun _ => ⟨.frz, by decide, by simp [evE, evG, R.of, lab_p]⟩⟩)
      rw [filter_true] at lc
      have e : isBeg (.tuple xs) = xs.all isLab := by simp [isBeg, h]
      rw [e]
      exact bi1 lc (all_ok xs isLab)
    · have e : isBeg (.tuple xs) = false := by simp [isBeg, h]
      rw [e]
      exact and_f (x := (.frz, .bool false)) (by simp [evE, evA, biF, cmpF, i2F, R.of, q7]; omega) rfl
  | _ => simp [evS, evE, isiF, truth, isBeg]
/-! ### names -/
def KS : List String := ["again", "alike", "and", "back", "circuit", "dead", "delay", "feed", "in", "inner", "ins", "kept", "later", "law", "lets", "light", "many", "may", "numbers", "once", "open", "pipe", "plus", "promise", "rest", "size", "steer", "stream", "use", "within", "without"]
def KD : List D := KS.map fun x => .str (Str.ofString x)
theorem g8 : G 8 = some (.tuple KD) := rfl
def kept (x : Str) : Bool := KD.any fun z => PyData.eqv z (.str x)
theorem in_kept (x : Str) : inF (.str x) (.tuple KD) = some (kept x) := by
  rw [inF_tup, if_pos (Nat.le_trans (Nat.min_le_right _ _) (by simp [PyData.depth]))]
  rfl
theorem in_keptL (x : Str) : inF (.str x) (.list KD) = some (kept x) := by
  rw [inF_lst, if_pos (Nat.le_trans (Nat.min_le_right _ _) (by simp [PyData.depth]))]
  rfl
abbrev SM : Str := "abcdefghijklmnopqrstuvwxyz"
abbrev DG : Str := "0123456789"
def inD (z : Str) : D → Bool
  | .str y => decide ((tl y).headD 0 ∈ tl z)
  | _ => false
def isNam : D → Bool
  | .str x => decide (0 < x.length) && decide (x.length ≤ 12) && decide ((tl x).headD 0 ∈ tl SM) && !kept x && (signsD x).all (inD AL)
  | _ => false
theorem sub0 {x : Str} (h : 0 < x.length) : subF (.str x) (.int 0) = some (.str (S [(tl x).headD 0])) := by
  have e := sub_S x 0
  have h : 0 < (tl x).length := h
  rw [show ((0 : Nat) : Int) = 0 from rfl] at e
  rw [e]
  cases q : tl x with
  | nil => rw [q] at h; simp at h
  | cons c r => rfl
theorem signs_in {x : Str} {d : D} (h : d ∈ signsD x) : ∃ c ∈ tl x, d = .str (S [c]) := by
  unfold signsD at h
  obtain ⟨c, hc, rfl⟩ := List.mem_map.mp h
  exact ⟨c, hc, rfl⟩
theorem signs_len (x : Str) : (signsD x).length = x.length := by
  unfold signsD
  rw [List.length_map]
  rfl
theorem nam_p (k : Nat) (s : Src) (v : D) : Ph (k + 1) 3 [.d v] s = .ok (false, .bool (isNam v)) s := by
  show endF (evS (Ph k) G b_is_name [.d false v, .e] s) = _
  unfold b_is_name
  obtain ⟨q4, _, _, _⟩ := gN
  cases v with
  | str x =>
    by_cases h1 : 0 < x.length
    case neg =>
      have e : isNam (.str x) = false := by simp [isNam, h1]
      rw [e]
      refine congrArg endF (seq_ret ?_)
      rw [ifs_t (x := (.frz, .bool true)) (s' := s) (by simp [evE, evA, isiF, biF, cmpF, i2F, truth, R.of, q4, h1]) rfl]
      simp [evS, evE]
    by_cases h2 : x.length ≤ 12
    case neg =>
      have e : isNam (.str x) = false := by simp [isNam, h2]
      rw [e]
      refine congrArg endF (seq_ret ?_)
      have h2' : 12 < x.length := Nat.lt_of_not_le h2
      rw [ifs_t (x := (.frz, .bool true)) (s' := s) ((or_f (x := (.frz, .bool false)) (s1 := s) (by simp [evE, isiF, truth]) rfl).trans (or_t (x := (.frz, .bool true)) (s1 := s) (by simp [evE, evA, isiF, biF, cmpF, i2F, truth, R.of, q4, h1]; omega) rfl)) rfl]
      simp [evS, evE]
    have hc : ∀ {t : T}, evE (Ph k) G (.or (.not (.isi "str" (.v 0))) (.or (.not (.cmp2 .Lt .LtE (.c (.int 0)) (.bi .len (.cons (.v 0) .nil)) (.g 4))) t)) [.d false (.str x), .e] s = evE (Ph k) G t [.d false (.str x), .e] s := fun {t} => by
      have hh : decide ((x.length : Int) ≤ 12) = true := decide_eq_true (by omega)
      rw [or_f (x := (.frz, .bool false)) (s1 := s) (by simp [evE, isiF, truth]) rfl, or_f (x := (.frz, .bool false)) (s1 := s) (by simp [evE, evA, isiF, biF, cmpF, i2F, truth, R.of, q4, h1]; first | exact h2 | omega) rfl]
    by_cases h3 : (tl x).headD 0 ∈ tl SM
    case neg =>
      have e : isNam (.str x) = false := by simp only [isNam, decide_eq_false h3, Bool.and_false, Bool.false_and]
      rw [e]
      refine congrArg endF (seq_ret ?_)
      rw [ifs_t (x := (.frz, .bool true)) (s' := s) (hc.trans (or_t (x := (.frz, .bool true)) (s1 := s) (cmp_e (o := .NotIn) (sub_e (v_e rfl) ev_c (sub0 h1)) (g_e g2) (by rw [cmpF, in1, decide_eq_false h3]; rfl)) rfl)) rfl]
      simp [evS, evE]
    have hc2 : ∀ {t : T}, evE (Ph k) G (.or (.not (.isi "str" (.v 0))) (.or (.not (.cmp2 .Lt .LtE (.c (.int 0)) (.bi .len (.cons (.v 0) .nil)) (.g 4))) (.or (.cmp .NotIn (.sub (.v 0) (.c (.int 0))) (.g 2)) t))) [.d false (.str x), .e] s = evE (Ph k) G t [.d false (.str x), .e] s := fun {t} => by
      rw [hc, or_f (x := (.frz, .bool false)) (s1 := s) (cmp_e (o := .NotIn) (sub_e (v_e rfl) ev_c (sub0 h1)) (g_e g2) (by rw [cmpF, in1, decide_eq_true h3]; rfl)) rfl]
    cases hk : kept x with
    | true =>
      have e : isNam (.str x) = false := by simp only [isNam, hk, Bool.not_true, Bool.and_false, Bool.false_and]
      rw [e]
      refine congrArg endF (seq_ret ?_)
      rw [ifs_t (x := (.frz, .bool true)) (s' := s) (hc2.trans (by simp [evE, cmpF, g8, in_kept, hk, R.of])) rfl]
      simp [evS, evE]
    | false =>
      rw [seq_next (env' := [.d false (.str x), .e]) (s' := s) (by
        rw [ifs_f (x := (.frz, .bool false)) (s' := s) (hc2.trans (by simp [evE, cmpF, g8, in_kept, hk, R.of])) rfl]
        rfl)]
      have ea : opF .Add (.str "abcdefghijklmnopqrstuvwxyz") (.str "0123456789") = some (.frz, .str AL) := by
        rw [opF_str, if_pos (by decide), al_eq]
      have lc := lc_gen (Φ := Ph k) (Gg := G) (tg := .v 1) (it := .it (.v 0)) (cond := .c (.bool true)) (elt := .cmp .In (.v 1) (.op .Add (.g 2) (.g 3))) (ws := [1]) (env := [.d false (.str x), .e]) (s := s) (s1 := s) (pk := false) (xs := signsD x) (p := fun _ => true) (g := fun y => .bool (inD AL y))
        (by simp [evI, evE, itF, R.of]) (by rw [signs_len, sizeL]; omega) (fun d hd => by
          obtain ⟨c, _, rfl⟩ := signs_in hd
          exact ⟨[.d false (.str x), .d false (.str (S [c]))], by simp [bindT, putE, klE], ⟨_, rfl⟩, fun _ => ⟨.frz, by decide, cmp_e (o := .In) (v_e rfl) (op_e (g_e g2) (g_e g3) ea) (in1 AL c)⟩⟩)
      rw [filter_true] at lc
      have e : isNam (.str x) = (signsD x).all (inD AL) := by simp only [isNam, h1, h2, h3, hk, decide_true, Bool.not_false, Bool.true_and]
      rw [e]
      refine congrArg endF (seq_ret ?_)
      exact ret_e (bi1 lc (all_ok _ _))
  | _ =>
    refine congrArg endF (seq_ret ?_)
    rw [ifs_t (x := (.frz, .bool true)) (s' := s) (by simp [evE, isiF, truth]) rfl]
    simp [evS, evE, isNam]
/-- the law's kept words -/
theorem split_ok : meF .split (.str ((Str.ofString "again alike and back circuit dead delay feed in inner ins kept later law lets light many may numbers once") ++ (Str.ofString " open pipe plus promise rest size steer stream use within without"))) [.str " "] = some (.own, .list KD) := by kernel_rfl
theorem al_parts {c : Nat} (h : c ∈ tl AL) : (c ∈ tl SM) ↔ ¬ c ∈ tl DG := by
  have : ∀ c ∈ tl AL, (c ∈ tl SM) ↔ ¬ c ∈ tl DG := by decide +kernel
  exact this c h
theorem all_in (x : Str) : (signsD x).all (inD AL) = (tl x).all fun c => decide (c ∈ tl AL) := by
  unfold signsD
  rw [List.all_map]
  rfl
theorem nam_eq {x : Str} (h1 : 0 < x.length) (h2 : x.length ≤ 12) : isNam (.str x) = (!kept x && !decide ((tl x).headD 0 ∈ tl DG) && ((signsD x).filter fun d => !inD AL d).isEmpty) := by
  have e : ((signsD x).filter fun d => !inD AL d).isEmpty = (signsD x).all (inD AL) := by
    rw [Bool.eq_iff_iff, List.isEmpty_iff, List.filter_eq_nil_iff, List.all_eq_true]
    simp
  rw [e]
  simp only [isNam, h1, h2, decide_true, Bool.true_and]
  cases hk : kept x
  · cases ha : (signsD x).all (inD AL)
    · simp
    · have hm : (tl x).headD 0 ∈ tl AL := by
        rw [all_in] at ha
        have hl : 0 < (tl x).length := h1
        cases q : tl x with
        | nil => rw [q] at hl; simp at hl
        | cons c r =>
          rw [q] at ha
          have := List.all_eq_true.mp ha c List.mem_cons_self
          exact of_decide_eq_true this
      have := al_parts hm
      by_cases h3 : (tl x).headD 0 ∈ tl DG
      · rw [decide_eq_true h3, decide_eq_false (fun z => this.mp z h3)]
        rfl
      · rw [decide_eq_false h3, decide_eq_true (this.mpr h3)]
        rfl
  · simp
theorem nam_l (k : Nat) (s : Src) (v : D) : Ph (k + 1) 15 [.d v] s = .ok (false, .bool (isNam v)) s := by
  show endF (evS (Ph k) G b__law_is_name [.d false v, .e, .e] s) = _
  unfold b__law_is_name
  rw [seq_next (asg_e (env' := [.d false v, .d false (.str "again alike and back circuit dead delay feed in inner ins kept later law lets light many may numbers once"), .e]) ev_c (by simp [bindT, putE]))]
  have e2 : opF .Add (.str "again alike and back circuit dead delay feed in inner ins kept later law lets light many may numbers once") (.str " open pipe plus promise rest size steer stream use within without") = some (.frz, .str ((Str.ofString "again alike and back circuit dead delay feed in inner ins kept later law lets light many may numbers once") ++ (Str.ofString " open pipe plus promise rest size steer stream use within without"))) := by
    rw [opF_str, if_pos (by decide +kernel)]
  rw [seq_next (asg_e (s1 := s) (env' := [.d false v, .d false (.list KD), .e]) (me1 (op_e (v_e rfl) ev_c e2) rfl ev_c split_ok) (by simp [bindT, putE]))]
  cases v with
  | str x =>
    by_cases h1 : 0 < x.length
    case neg =>
      have e : isNam (.str x) = false := by simp [isNam, h1]
      rw [e]
      refine congrArg endF (seq_ret ?_)
      rw [ifs_t (x := (.frz, .bool true)) (s' := s) (by simp [evE, evA, isiF, biF, cmpF, i2F, truth, R.of, h1]) rfl]
      simp [evS, evE]
    by_cases h2 : x.length ≤ 12
    case neg =>
      have e : isNam (.str x) = false := by simp [isNam, h2]
      rw [e]
      refine congrArg endF (seq_ret ?_)
      have h2' : 12 < x.length := Nat.lt_of_not_le h2
      rw [ifs_t (x := (.frz, .bool true)) (s' := s) ((or_f (x := (.frz, .bool false)) (s1 := s) (by simp [evE, isiF, truth]) rfl).trans (or_t (x := (.frz, .bool true)) (s1 := s) (by simp [evE, evA, isiF, biF, cmpF, i2F, truth, R.of, h1]; omega) rfl)) rfl]
      simp [evS, evE]
    rw [nam_eq h1 h2]
    have hc : ∀ {t : T}, evE (Ph k) G (.or (.not (.isi "str" (.v 0))) (.or (.not (.cmp2 .Lt .Lt (.c (.int 0)) (.bi .len (.cons (.v 0) .nil)) (.c (.int 13)))) t)) [.d false (.str x), .d false (.list KD), .e] s = evE (Ph k) G t [.d false (.str x), .d false (.list KD), .e] s := fun {t} => by
      rw [or_f (x := (.frz, .bool false)) (s1 := s) (by simp [evE, isiF, truth]) rfl, or_f (x := (.frz, .bool false)) (s1 := s) (by simp [evE, evA, isiF, biF, cmpF, i2F, truth, R.of, h1]; omega) rfl]
    have k1 : evE (Ph k) G (.cmp .In (.v 0) (.v 1)) [.d false (.str x), .d false (.list KD), .e] s = .ok (.frz, .bool (kept x)) s := cmp_e (o := .In) (v_e rfl) (v_e rfl) (in_keptL x)
    have k2 : evE (Ph k) G (.cmp .In (.sub (.v 0) (.c (.int 0))) (.c (.str "0123456789"))) [.d false (.str x), .d false (.list KD), .e] s = .ok (.frz, .bool (decide ((tl x).headD 0 ∈ tl DG))) s := cmp_e (o := .In) (sub_e (v_e rfl) ev_c (sub0 h1)) ev_c (in1 _ _)
    cases hk : kept x with
    | true =>
      refine congrArg endF (seq_ret ?_)
      rw [hk] at k1
      rw [ifs_t (x := (.frz, .bool true)) (s' := s) (hc.trans (or_t k1 rfl)) rfl]
      simp [evS, evE]
    | false =>
      rw [hk] at k1
      by_cases h3 : (tl x).headD 0 ∈ tl DG
      · rw [decide_eq_true h3] at k2 ⊢
        refine congrArg endF (seq_ret ?_)
        rw [ifs_t (x := (.frz, .bool true)) (s' := s) (hc.trans ((or_f k1 rfl).trans k2)) rfl]
        simp [evS, evE]
      · rw [decide_eq_false h3] at k2 ⊢
        rw [seq_next (env' := [.d false (.str x), .d false (.list KD), .e]) (s' := s) (by
          rw [ifs_f (x := (.frz, .bool false)) (s' := s) (hc.trans ((or_f k1 rfl).trans k2)) rfl]
          rfl)]
        have lc := lc_gen (Φ := Ph k) (Gg := G) (tg := .v 2) (it := .it (.v 0)) (cond := .cmp .NotIn (.v 2) (.c (.str "abcdefghijklmnopqrstuvwxyz0123456789"))) (elt := .v 2) (ws := [2]) (env := [.d false (.str x), .d false (.list KD), .e]) (s := s) (s1 := s) (pk := false) (xs := signsD x) (p := fun d => !inD AL d) (g := fun y => y)
          (by simp [evI, evE, itF, R.of]) (by rw [signs_len, sizeL]; omega) (fun d hd => by
            obtain ⟨c, _, rfl⟩ := signs_in hd
            exact ⟨[.d false (.str x), .d false (.list KD), .d false (.str (S [c]))], by simp [bindT, putE, klE], ⟨_, cmp_e (o := .NotIn) (v_e rfl) ev_c (by rw [cmpF, in1]; rfl)⟩, fun _ => ⟨.frz, by decide, v_e rfl⟩⟩)
        rw [List.map_id'] at lc
        refine congrArg endF (seq_ret ?_)
        exact ret_e (cmp_e (o := .Eq) (y := (.own, .list [])) lc (by simp [evE, evA, noPeek, R.of]) (eqF_nil _))
  | _ =>
    refine congrArg endF (seq_ret ?_)
    rw [ifs_t (x := (.frz, .bool true)) (s' := s) (by simp [evE, isiF, truth]) rfl]
    simp [evS, evE, isNam]
end K01
set_option maxHeartbeats 1000000
/-! K01V: written labels and beginnings. -/
namespace K01
open PySem PySem.Spec PyProof.Rows L2 Tre _root_.SX

def numT : D → Str
  | .int i => Str.ofString (toString i)
  | _ => Str.ofString ""
theorem num_cases {d : D} (h : isNum d = true) : ∃ i : Int, d = .int i ∧ (i = 0 ∨ i = 1 ∨ i = 2 ∨ i = 3 ∨ i = 4) := by
  cases d
  case int i =>
    simp only [isNum, Bool.and_eq_true, decide_eq_true_eq] at h
    exact ⟨i, rfl, by omega⟩
  all_goals exact absurd h Bool.false_ne_true
theorem num_len {d : D} (h : isNum d = true) : (numT d).length ≤ 1 ∧ PyData.strOk (numT d) = true ∧ biF .str [d] = some (.frz, .str (numT d)) := by
  obtain ⟨i, e, h2⟩ := num_cases h
  subst e
  clear h
  rcases h2 with rfl | rfl | rfl | rfl | rfl <;> exact ⟨by decide +kernel, by decide +kernel, rfl⟩
theorem strsOf_map (g : D → Str) : ∀ xs : List D, strsOf (xs.map fun d => .str (g d)) = some (xs.map g)
  | [] => rfl
  | x :: xs => by
    rw [List.map_cons, strsOf, strsOf_map g xs]
    rfl
theorem sum_le {B : Nat} : ∀ {ss : List Str}, (∀ y ∈ ss, y.length ≤ B) → (ss.map (·.length)).sum ≤ B * ss.length
  | [], _ => by simp
  | y :: ss, h => by
    have h1 := h y List.mem_cons_self
    have h2 := sum_le fun z hz => h z (List.mem_cons_of_mem _ hz)
    simp only [List.map_cons, List.sum_cons, List.length_cons, Nat.mul_add, Nat.mul_one]
    omega
theorem join_ok {sep : Str} {xs : List D} {g : D → Str} {B n : Nat} (h : ∀ d ∈ xs, (g d).length ≤ B) (hn : xs.length ≤ n) (hb : B * n + n * sep.length ≤ 1000000) :
    meF .join (.str sep) [.list (xs.map fun d => .str (g d))] = some (.frz, .str (Txt.join sep (xs.map g))) ∧ (Txt.join sep (xs.map g)).length ≤ B * n + n * sep.length := by
  have hs : ((xs.map g).map (·.length)).sum ≤ B * (xs.map g).length := sum_le fun y hy => by
    obtain ⟨d, hd, rfl⟩ := List.mem_map.mp hy
    exact h d hd
  rw [List.length_map] at hs
  have h1 : B * xs.length ≤ B * n := Nat.mul_le_mul_left _ hn
  have h2 : xs.length * sep.length ≤ n * sep.length := Nat.mul_le_mul_right _ hn
  have hz : ((xs.map g).map (·.length)).sum + (xs.map g).length * sep.length ≤ B * n + n * sep.length := by
    rw [List.length_map]
    omega
  refine ⟨?_, ?_⟩
  · have e : (itemsOf (.list (xs.map fun d => .str (g d)))).bind strsOf = some (xs.map g) := strsOf_map g xs
    unfold meF
    simp only [e]
    rw [if_pos (by omega)]
  · rw [TL.join_eq]
    exact Nat.le_trans (join_len _ _) hz
theorem join_chars {sep : Str} {xs : List D} {g : D → Str} (hs : PyData.strOk sep = true) (h : ∀ d ∈ xs, PyData.strOk (g d) = true) : PyData.strOk (Txt.join sep (xs.map g)) = true :=
  okT_to (txt_join_ok (okT_of hs) fun x hx => by
    obtain ⟨d, hd, rfl⟩ := List.mem_map.mp hx
    exact okT_of (h d hd))
def labT : D → Str
  | .tuple ns => Txt.join (Str.ofString " ") (ns.map numT)
  | _ => Str.ofString ""
theorem lab_of {d : D} (h : isLab d = true) : ∃ ns, d = .tuple ns ∧ ns.length ≤ 20 ∧ ∀ x ∈ ns, isNum x = true := by
  match d, h with
  | .tuple ns, h =>
    simp only [isLab, Bool.and_eq_true, decide_eq_true_eq, List.all_eq_true] at h
    exact ⟨ns, rfl, h.1.2, h.2⟩
theorem labT_len {d : D} (h : isLab d = true) : (labT d).length ≤ 40 ∧ PyData.strOk (labT d) = true := by
  obtain ⟨ns, rfl, hl, hn⟩ := lab_of h
  exact ⟨(join_ok (sep := Str.ofString " ") (B := 1) (n := 20) (fun d hd => (num_len (hn d hd)).1) hl (by decide)).2, join_chars (by decide +kernel) fun d hd => (num_len (hn d hd)).2.1⟩
/-- the text of the label in slot j -/
theorem lab_join {Φ : Nat → List Tre.Arg → Src → R (Bool × D)} {Gg : Nat → Option D} {env : Tre.Env} {s : Src} {i j : Nat} {d : D} (h : isLab d = true) (hj : env[j]? = some (.d false d)) (hi : i < env.length) :
    evE Φ Gg (.me .join (.c (.str " ")) (.cons (.lc (.v i) (.it (.v j)) (.c (.bool true)) (.bi .str (.cons (.v i) .nil)) [i]) .nil)) env s = .ok (.frz, .str (labT d)) s := by
  obtain ⟨ns, rfl, hl, hn⟩ := lab_of h
  have lc := lc_gen (Φ := Φ) (Gg := Gg) (tg := .v i) (it := .it (.v j)) (cond := .c (.bool true)) (elt := .bi .str (.cons (.v i) .nil)) (ws := [i]) (env := env) (s := s) (s1 := s) (pk := false) (xs := ns) (p := fun _ => true) (g := fun y => .str (numT y))
    (by simp [evI, evE, hj, itF, R.of]) (by rw [sizeL]; omega) (fun d hd => by
      have hk : klE env [i] = env.set i .e := rfl
      refine ⟨(env.set i .e).set i (.d false d), by simp [bindT, putE, hk, hi], ⟨_, rfl⟩, fun _ => ⟨.frz, by decide, ?_⟩⟩
      exact bi1 (x := (.frz, d)) (v_e (by simp [hi])) (num_len (hn d hd)).2.2)
  rw [filter_true] at lc
  exact me1 ev_c rfl lc (join_ok (sep := Str.ofString " ") (B := 1) (n := 20) (fun d hd => (num_len (hn d hd)).1) hl (by decide)).1
theorem labt_p (k : Nat) (s : Src) (d : D) (h : isLab d = true) : Ph (k + 1) 7 [.d d] s = .ok (false, .str (labT d)) s := by
  show endF (evS (Ph k) G b_label_text [.d false d, .e] s) = _
  unfold b_label_text
  refine congrArg endF (seq_ret ?_)
  exact ret_e (lab_join h rfl (by simp))
def begT (xs : List D) : Str := Str.ofString "(" ++ Txt.join (Str.ofString ", ") (xs.map labT) ++ Str.ofString ")"
theorem beg_of {d : D} (h : isBeg d = true) : ∃ xs, d = .tuple xs ∧ xs.length ≤ 200 ∧ ∀ x ∈ xs, isLab x = true := by
  match d, h with
  | .tuple ns, h =>
    simp only [isBeg, Bool.and_eq_true, decide_eq_true_eq, List.all_eq_true] at h
    exact ⟨ns, rfl, h.1, h.2⟩
theorem join2 {xs : List D} (hl : xs.length ≤ 200) (hx : ∀ x ∈ xs, isLab x = true) : meF .join (.str (Str.ofString ", ")) [.list (xs.map fun d => .str (labT d))] = some (.frz, .str (Txt.join (Str.ofString ", ") (xs.map labT))) ∧ (Txt.join (Str.ofString ", ") (xs.map labT)).length ≤ 8400 :=
  join_ok (sep := Str.ofString ", ") (B := 40) (n := 200) (fun d hd => (labT_len (hx d hd)).1) hl (by decide)
theorem op_beg {xs : List D} (hl : xs.length ≤ 200) (hx : ∀ x ∈ xs, isLab x = true) : opF .Add (.str (Str.ofString "(")) (.str (Txt.join (Str.ofString ", ") (xs.map labT))) = some (.frz, .str (Str.ofString "(" ++ Txt.join (Str.ofString ", ") (xs.map labT))) ∧
    opF .Add (.str (Str.ofString "(" ++ Txt.join (Str.ofString ", ") (xs.map labT))) (.str (Str.ofString ")")) = some (.frz, .str (begT xs)) := by
  have h := (join2 hl hx).2
  have l1 : (Str.ofString "(").length = 1 := by decide
  have l2 : (Str.ofString ")").length = 1 := by decide
  refine ⟨by rw [opF_str, if_pos (by rw [l1, sizeL]; omega)], ?_⟩
  rw [opF_str, if_pos (by rw [str_len_app, l1, l2, sizeL]; omega)]
  rfl
theorem begT_sm {xs : List D} (hl : xs.length ≤ 200) (hx : ∀ x ∈ xs, isLab x = true) : Sm 0 9000 (.str (begT xs)) := by
  have h := (join2 hl hx).2
  refine Sm.str ?_ ?_
  · unfold begT
    have l1 : (Str.ofString "(").length = 1 := by decide
    have l2 : (Str.ofString ")").length = 1 := by decide
    rw [str_len_app, str_len_app, l1, l2]
    omega
  · exact ok_app (ok_app (by decide +kernel) (join_chars (by decide +kernel) fun d hd => (labT_len (hx d hd)).2)) (by decide +kernel)
theorem begt_p (k : Nat) (s : Src) (xs : List D) (hl : xs.length ≤ 200) (hx : ∀ x ∈ xs, isLab x = true) : Ph (k + 2) 8 [.d (.tuple xs)] s = .ok (false, .str (begT xs)) s := by
  show endF (evS (Ph (k + 1)) G b_beginning_text [.d false (.tuple xs), .e] s) = _
  unfold b_beginning_text
  have lc := lc_gen (Φ := Ph (k + 1)) (Gg := G) (tg := .v 1) (it := .it (.v 0)) (cond := .c (.bool true)) (elt := .call 7 (.cons (.v 1) .nil)) (ws := [1]) (env := [.d false (.tuple xs), .e]) (s := s) (s1 := s) (pk := false) (xs := xs) (p := fun _ => true) (g := fun y => .str (labT y))
    (by simp [evI, evE, itF, R.of]) (by rw [sizeL]; omega) (fun d hd => ⟨[.d false (.tuple xs), .d false d], by simp [bindT, putE, klE], ⟨_, rfl⟩, fun _ => ⟨.frz, by decide, call1 (x := (.frz, d)) (v_e rfl) (by simp) (labt_p k s d (hx d hd))⟩⟩)
  rw [filter_true] at lc
  refine congrArg endF (seq_ret ?_)
  exact ret_e (op_e (op_e ev_c (me1 ev_c rfl lc (join2 hl hx).1) (op_beg hl hx).1) ev_c (op_beg hl hx).2)
end K01
set_option maxHeartbeats 2000000
/-! K01W: what is drawn. -/
namespace K01
open PySem PySem.Spec PyProof.Rows L2 Tre _root_.SX

section
variable {Φ : Nat → List Tre.Arg → Src → R (Bool × D)} {Gg : Nat → Option D} {a b tg it : T} {env : Tre.Env} {s s1 s2 : Src}
theorem rng1 {k : Kd} {i : Int} (h : evE Φ Gg a env s = .ok (k, .int i) s1) (h1 : -1000000 < i) (h2 : i < 1000000) : evI Φ Gg (.rng (.cons a .nil)) env s = .ok (false, rngD 0 i.toNat) s1 := by
  have e : okR i = true := by
    unfold okR
    simp only [Bool.and_eq_true, decide_eq_true_eq]
    omega
  simp only [evI, evA, h, R.bind_ok, List.map_cons, List.map_nil, rngF, if_pos e, Option.map_some, R.of_some]
theorem for_e {xs : List D} {r : R Fl} (h : evI Φ Gg it env s = .ok (false, xs) s1) (h2 : forL (fun x env s => (R.of (bindT tg (.frz, x) env) s).bind fun env' s => evS Φ Gg b env' s) xs env s1 = r) : evS Φ Gg (.for tg it b) env s = r := by
  simp only [evS, h, R.bind_ok]
  exact h2
theorem rngD_len (lo : Int) (n : Nat) : (rngD lo n).length = n := by unfold rngD; rw [List.length_map, List.length_range]
end
def sl (l : List String) : List D := l.map fun x => .str (Str.ofString x)
def txB (n : Nat) : D → Bool
  | .str t => decide (t.length ≤ n) && PyData.strOk t
  | _ => false
theorem tx_of {n : Nat} {d : D} (h : txB n d = true) : ∃ t, d = .str t ∧ t.length ≤ n ∧ PyData.strOk t = true := by
  cases d
  case str t =>
    simp only [txB, Bool.and_eq_true, decide_eq_true_eq] at h
    exact ⟨t, rfl, h.1, h.2⟩
  all_goals exact absurd h Bool.false_ne_true
def W1 : List D := sl ["x", "c", "a1", "delay", "circuit", "0", "12", "007", "zzzzzzzzzzzz", "zzzzzzzzzzzzz", "2x", "once", "numbers"]
def W2 : List D := W1 ++ sl ["(", ")", ",", ":", ";", "=", "+", " ", "\n", "  ", " ", " "]
def W3 : List D := sl ["-", "A", "_", ".", "\t", "{", "|", "~", "?", "[", "'", "/"]
theorem w2_ok : W2.all (txB 13) = true := by decide +kernel
theorem w3_ok : W3.all (txB 13) = true := by decide +kernel
theorem cut_len (z : Str) (lo hi : Option Int) : (cutS z lo hi).length ≤ z.length := by
  show ((z.cps.toList.drop _).take _).toArray.size ≤ z.cps.size
  simp only [List.size_toArray, List.length_take, List.length_drop, Array.length_toList]
  omega
theorem cut_ok {z : Str} {lo hi : Option Int} (h : PyData.strOk z = true) : PyData.strOk (cutS z lo hi) = true := by
  unfold PyData.strOk at *
  rw [← Array.all_toList, List.all_eq_true] at *
  intro c hc
  have hc : c ∈ (z.cps.toList.drop _).take _ := hc
  exact h c (List.mem_of_mem_drop (List.mem_of_mem_take hc))
theorem text_ok (k : Nat) (s : Src) : ∃ x s', Ph (k + 3) 12 [.src] s = .ok (false, .str x) s' ∧ x.length ≤ 400 ∧ PyData.strOk x = true := by
  show ∃ x s', endF (evS (Ph (k + 2)) G b__law_text [.src, .e, .e, .e, .e] s) = .ok (false, .str x) s' ∧ _
  unfold b__law_text
  rw [seq_next (asg_e (x := (.own, .list W1)) (s1 := s) (env' := [.src, .d false (.list W1), .e, .e, .e]) (by kernel_rfl) (by simp [bindT, putE]))]
  rw [seq_next (asg_e (x := (.own, .list W2)) (s1 := s) (env' := [.src, .d false (.list W2), .e, .e, .e]) (by kernel_rfl) (by simp [bindT, putE]))]
  rw [seq_next (asg_e (x := (.own, .list W3)) (s1 := s) (env' := [.src, .d false (.list W2), .d false (.list W3), .e, .e]) (by kernel_rfl) (by simp [bindT, putE]))]
  rw [seq_next (asg_e (x := (.frz, .str "")) (s1 := s) (env' := [.src, .d false (.list W2), .d false (.list W3), .d false (.str ""), .e]) ev_c (by simp [bindT, putE]))]
  obtain ⟨i, s1, p1, i0, i1⟩ := pick_ok (k + 1) s 12 (by decide) (by decide)
  have hi : evI (Ph (k + 2)) G (.rng (.cons (.call 9 (.csrc 0 (.cons (.c (.int 12)) .nil))) .nil)) [.src, .d false (.list W2), .d false (.list W3), .d false (.str ""), .e] s = .ok (false, rngD 0 i.toNat) s1 :=
    rng1 (callS1 (x := (.frz, .int 12)) rfl ev_c (by decide) p1) (by omega) (by omega)
  obtain ⟨env', s2, e2, x, sl4, rfl, hx, hok⟩ := forL_invN (f := fun x env s => (R.of (bindT (.v 4) (.frz, x) env) s).bind fun env' s => evS (Ph (k + 2)) G (.seq (.asg (.v 3) (.op .Add (.v 3) (.call 10 (.csrc 0 (.cons (.v 1) .nil))))) .nil) env' s) (xs := rngD 0 i.toNat) (i := 0) (env := [.src, .d false (.list W2), .d false (.list W3), .d false (.str ""), .e]) (s := s1)
    (I := fun n env => ∃ (x : Str) (sl4 : Slot), env = [.src, .d false (.list W2), .d false (.list W3), .d false (.str x), sl4] ∧ x.length ≤ 13 * n ∧ PyData.strOk x = true) (N := 12)
    (by rw [rngD_len]; omega) (fun n y env s hn _ ⟨x, sl4, he, hx, hok⟩ => by
      subst he
      obtain ⟨z, s', ez, hz⟩ := of_ok k s W2 (by decide) (by decide)
      obtain ⟨t, rfl, ht, hto⟩ := tx_of (List.all_eq_true.mp w2_ok z hz)
      refine ⟨[.src, .d false (.list W2), .d false (.list W3), .d false (.str (x ++ t)), .d false y], s', ?_, _, _, rfl, by rw [str_len_app]; omega, ok_app hok hto⟩
      have eb : bindT (.v 4) (.frz, y) [.src, .d false (.list W2), .d false (.list W3), .d false (.str x), sl4] = some [.src, .d false (.list W2), .d false (.list W3), .d false (.str x), .d false y] := by simp [bindT, putE]
      rw [eb, R.of_some, R.bind_ok]
      rw [seq_next (asg_e (x := (.frz, .str (x ++ t))) (s1 := s') (env' := [.src, .d false (.list W2), .d false (.list W3), .d false (.str (x ++ t)), .d false y]) (op_e (v_e rfl) (callS1 (x := (.frz, .list W2)) rfl (v_e rfl) (by simp) ez) (by
        show opF .Add (.str x) (.str t) = _
        rw [opF_str, if_pos (by rw [sizeL]; omega)])) (by simp [bindT, putE]))]
      rfl) ⟨"", .e, rfl, by decide, by decide +kernel⟩
  rw [rngD_len] at hx
  have hx : x.length ≤ 156 := by omega
  rw [seq_next (for_e hi e2)]
  obtain ⟨j, s3, p3, j0, j1⟩ := pick_ok (k + 1) s2 3 (by decide) (by decide)
  have hc : evE (Ph (k + 2)) G (.cmp .Eq (.call 9 (.csrc 0 (.cons (.c (.int 3)) .nil))) (.c (.int 0))) [.src, .d false (.list W2), .d false (.list W3), .d false (.str x), sl4] s2 = .ok (.frz, .bool (j == 0)) s3 :=
    cmp_e (o := .Eq) (callS1 (x := (.frz, .int 3)) rfl ev_c (by decide) p3) ev_c (eqF_int _ _)
  cases hj : (j == 0) with
  | false =>
    rw [hj] at hc
    rw [seq_next (env' := [.src, .d false (.list W2), .d false (.list W3), .d false (.str x), sl4]) (s' := s3) (by rw [ifs_f hc rfl]; rfl)]
    exact ⟨x, s3, congrArg endF (seq_ret (ret_e (v_e rfl))), by omega, hok⟩
  | true =>
    rw [hj] at hc
    obtain ⟨m, s4, p4, m0, m1⟩ := pick_ok (k + 1) s3 (x.length + 1) (by omega) (by omega)
    obtain ⟨z, s5, ez, hz⟩ := of_ok k s4 W3 (by decide) (by decide)
    obtain ⟨t, rfl, ht, hto⟩ := tx_of (List.all_eq_true.mp w3_ok z hz)
    have l1 := cut_len x none (some m)
    have l2 := cut_len x (some m) none
    have key : evS (Ph (k + 2)) G (.ifs (.cmp .Eq (.call 9 (.csrc 0 (.cons (.c (.int 3)) .nil))) (.c (.int 0))) (.seq (.asg (.v 4) (.call 9 (.csrc 0 (.cons (.op .Add (.bi .len (.cons (.v 3) .nil)) (.c (.int 1))) .nil)))) (.seq (.asg (.v 3) (.op .Add (.op .Add (.sl (.v 3) .nil (.cons (.v 4) .nil)) (.call 10 (.csrc 0 (.cons (.v 2) .nil)))) (.sl (.v 3) (.cons (.v 4) .nil) .nil))) .nil)) .nil) [.src, .d false (.list W2), .d false (.list W3), .d false (.str x), sl4] s2
        = .ok (.next [.src, .d false (.list W2), .d false (.list W3), .d false (.str (cutS x none (some m) ++ t ++ cutS x (some m) none)), .d false (.int m)]) s5 := by
      rw [ifs_t hc rfl]
      have hlen : evE (Ph (k + 2)) G (.op .Add (.bi .len (.cons (.v 3) .nil)) (.c (.int 1))) [.src, .d false (.list W2), .d false (.list W3), .d false (.str x), sl4] s3 = .ok (.frz, .int (x.length + 1)) s3 :=
        op_e (bi1 (z := (.frz, .int x.length)) (x := (.frz, .str x)) (v_e rfl) rfl) ev_c rfl
      rw [seq_next (asg_e (x := (.frz, .int m)) (s1 := s4) (env' := [.src, .d false (.list W2), .d false (.list W3), .d false (.str x), .d false (.int m)]) (callS1 (x := (.frz, .int (x.length + 1))) rfl hlen (by simp) p4) (by simp [bindT, putE]))]
      have c1 : evE (Ph (k + 2)) G (.sl (.v 3) .nil (.cons (.v 4) .nil)) [.src, .d false (.list W2), .d false (.list W3), .d false (.str x), .d false (.int m)] s4 = .ok (.frz, .str (cutS x none (some m))) s4 := by
        simp [evE, evO, intPart, slF, R.of]
      have c2 : evE (Ph (k + 2)) G (.sl (.v 3) (.cons (.v 4) .nil) .nil) [.src, .d false (.list W2), .d false (.list W3), .d false (.str x), .d false (.int m)] s5 = .ok (.frz, .str (cutS x (some m) none)) s5 := by
        simp [evE, evO, intPart, slF, R.of]
      rw [seq_next (asg_e (x := (.frz, .str (cutS x none (some m) ++ t ++ cutS x (some m) none))) (s1 := s5) (env' := [.src, .d false (.list W2), .d false (.list W3), .d false (.str (cutS x none (some m) ++ t ++ cutS x (some m) none)), .d false (.int m)])
        (op_e (op_e (z := (.frz, .str (cutS x none (some m) ++ t))) c1 (callS1 (x := (.frz, .list W3)) rfl (v_e rfl) (by simp) ez) (by
          show opF .Add (.str _) (.str t) = _
          rw [opF_str, if_pos (by rw [sizeL]; omega)])) c2 (by
          show opF .Add (.str _) (.str _) = _
          rw [opF_str, if_pos (by rw [sizeL, str_len_app]; omega)])) (by simp [bindT, putE]))]
      rfl
    rw [seq_next key]
    exact ⟨_, s5, congrArg endF (seq_ret (ret_e (v_e rfl))), by rw [str_len_app, str_len_app]; omega, ok_app (ok_app (cut_ok hok) hto) (cut_ok hok)⟩
end K01
set_option maxHeartbeats 2000000
/-! K01X: drawn values. -/
namespace K01
open PySem PySem.Spec PyProof.Rows L2 Tre _root_.SX

def V1 : List D := sl ["a", "x9", "open", "opens", "zzzzzzzzzzzz", "zzzzzzzzzzzzz", "9x", "", "aB", "a_", "law", "laws", "a\n", "a "]
def V2 : List D := [.int 0, .int 1, .int 2, .int 3, .int 20, .int 21]
def V3 : List D := [.int 0, .int 1, .int 2, .int 3, .int 4, .int 0, .int 1, .int 4, .int 5, .int (-1), .bool true, .none]
theorem v1_ok : V1.all (txB 13) = true := by decide +kernel
theorem v2_ok {d : D} (h : d ∈ V2) : ∃ m : Int, d = .int m ∧ 0 ≤ m ∧ m ≤ 21 := by
  simp only [V2, List.mem_cons, List.not_mem_nil, or_false] at h
  rcases h with rfl | rfl | rfl | rfl | rfl | rfl <;> exact ⟨_, rfl, by decide, by decide⟩
theorem v3_ok {d : D} (h : d ∈ V3) : Sm 0 30 d := by
  simp only [V3, List.mem_cons, List.not_mem_nil, or_false] at h
  rcases h with rfl | rfl | rfl | rfl | rfl | rfl | rfl | rfl | rfl | rfl | rfl | rfl
  all_goals first | exact Sm.int (by decide) | exact Sm.bool.mono (by decide) (by decide) | exact Sm.none.mono (by decide) (by decide)
theorem val_ok (k : Nat) (s : Src) : ∃ v s', Ph (k + 3) 16 [.src] s = .ok (false, v) s' ∧ Sm 3 30000 v := by
  show ∃ v s', endF (evS (Ph (k + 2)) G b__law_value [.src, .e, .e, .e, .e, .e, .e, .e, .e] s) = .ok (false, v) s' ∧ _
  unfold b__law_value
  rw [seq_next (asg_e (x := (.own, .list V1)) (s1 := s) (env' := [.src, .d true (.list V1), .e, .e, .e, .e, .e, .e, .e]) (by kernel_rfl) (by simp [bindT, putE]))]
  rw [fz_e (env' := [.src, .d false (.list V1), .e, .e, .e, .e, .e, .e, .e]) rfl]
  obtain ⟨wd, s1, e1, hw⟩ := of_ok k s V1 (by decide) (by decide)
  obtain ⟨wt, rfl, hwl, hwo⟩ := tx_of (List.all_eq_true.mp v1_ok wd hw)
  obtain ⟨md, s2, e2, hm⟩ := of_ok k s1 V2 (by decide) (by decide)
  obtain ⟨m, rfl, m0, m1⟩ := v2_ok hm
  rw [seq_next (par_e (xs := [(.frz, .str wt), (.frz, .int m)]) (s1 := s2) (env' := [.src, .d false (.list V1), .e, .e, .e, .d false (.str wt), .d false (.int m), .e, .e])
    (ea_cons (callS1 (x := (.frz, .list V1)) rfl (v_e rfl) (by simp) e1) (ea_cons (callS1 (x := (.own, .list V2)) rfl (by kernel_rfl) (by simp) e2) ea_nil)) (by simp [bindP, bindT, putE]))]
  rw [fz_e (env' := [.src, .d false (.list V1), .e, .e, .e, .d false (.str wt), .d false (.int m), .e, .e]) rfl]
  -- numbers
  obtain ⟨ys, s3, e3, ly, hy⟩ := lc_inv (Φ := Ph (k + 2)) (Gg := G) (tg := .v 7) (it := .rng (.cons (.v 6) .nil)) (elt := .call 10 (.csrc 0 (.cons (.lst (.cons (.c (.int 0)) (.cons (.c (.int 1)) (.cons (.c (.int 2)) (.cons (.c (.int 3)) (.cons (.c (.int 4)) (.cons (.c (.int 0)) (.cons (.c (.int 1)) (.cons (.c (.int 4)) (.cons (.c (.int 5)) (.cons (.neg (.c (.int 1))) (.cons (.c (.bool true)) (.cons (.c .none) .nil))))))))))))) .nil))) (ws := [7])
    (env := [.src, .d false (.list V1), .e, .e, .e, .d false (.str wt), .d false (.int m), .e, .e]) (s := s2) (Q := fun d => Sm 0 30 d) (rng1 (v_e rfl) (by omega) (by omega)) (by rw [rngD_len, sizeL]; omega)
    (fun x _ => ⟨[.src, .d false (.list V1), .e, .e, .e, .d false (.str wt), .d false (.int m), .d false x, .e], by simp [bindT, putE, klE], fun s => by
      obtain ⟨y, s', e, h⟩ := of_ok k s V3 (by decide) (by decide)
      exact ⟨.frz, y, s', by decide, callS1 (x := (.own, .list V3)) rfl (by kernel_rfl) (by simp) e, v3_ok h⟩⟩)
  rw [rngD_len] at ly
  rw [seq_next (asg_e (s1 := s3) (env' := [.src, .d false (.list V1), .d false (.list ys), .e, .e, .d false (.str wt), .d false (.int m), .e, .e]) e3 (by simp [bindT, putE]))]
  -- label
  obtain ⟨ls, s4, e4, ll, hls⟩ := lc_inv (Φ := Ph (k + 2)) (Gg := G) (tg := .tup (.cons (.v 7) (.cons (.v 8) .nil))) (it := .enu (.v 2)) (elt := .ife (.cmp .Eq (.call 9 (.csrc 0 (.cons (.c (.int 3)) .nil))) (.c (.int 0))) (.v 8) (.op .Sub (.v 7) (.op .Mult (.op .FloorDiv (.v 7) (.c (.int 5))) (.c (.int 5))))) (ws := [7, 8])
    (env := [.src, .d false (.list V1), .d false (.list ys), .e, .e, .d false (.str wt), .d false (.int m), .e, .e]) (s := s3) (s1 := s3) (pk := false) (xs := enuD 0 ys) (Q := fun d => Sm 0 30 d) (by simp [evI, evE, enF, R.of]) (by rw [enu_len, sizeL]; omega)
    (fun x hx => by
      obtain ⟨j, y, rfl, hyy, hj⟩ := enu_mem hx
      refine ⟨[.src, .d false (.list V1), .d false (.list ys), .e, .e, .d false (.str wt), .d false (.int m), .d false (.int j), .d false y], by simp [bindT, putE, klE], fun s => ?_⟩
      obtain ⟨i, s', p, i0, i1⟩ := pick_ok (k + 1) s 3 (by decide) (by decide)
      have hc : evE (Ph (k + 2)) G (.cmp .Eq (.call 9 (.csrc 0 (.cons (.c (.int 3)) .nil))) (.c (.int 0))) [.src, .d false (.list V1), .d false (.list ys), .e, .e, .d false (.str wt), .d false (.int m), .d false (.int j), .d false y] s = .ok (.frz, .bool (i == 0)) s' :=
        cmp_e (o := .Eq) (callS1 (x := (.frz, .int 3)) rfl ev_c (by decide) p) ev_c (eqF_int _ _)
      cases hi : (i == 0) with
      | true =>
        rw [hi] at hc
        exact ⟨.frz, y, s', by decide, (ife_t hc rfl).trans (v_e rfl), hy y hyy⟩
      | false =>
        rw [hi] at hc
        have hm : cmulB ((j : Int) / 5) 5 = true := by unfold cmulB; simp
        have hd : (j - (j : Int) / 5 * 5).natAbs < 1000000000 := by omega
        exact ⟨.frz, .int (j - (j : Int) / 5 * 5), s', by decide, (ife_f hc rfl).trans (op_e (v_e rfl) (op_e (op_e (v_e rfl) ev_c (opF_div _ _ (by decide) (by decide))) ev_c (opF_mul _ _ hm)) rfl), Sm.int hd⟩)
  rw [enu_len] at ll
  rw [seq_next (asg_e (x := (.frz, .tuple ls)) (s1 := s4) (env' := [.src, .d false (.list V1), .d false (.list ys), .d false (.tuple ls), .e, .d false (.str wt), .d false (.int m), .e, .e]) (bi1 e4 rfl) (by simp [bindT, putE]))]
  -- right
  obtain ⟨q, s5, p5, q0, q1⟩ := pick_ok (k + 1) s4 4 (by decide) (by decide)
  obtain ⟨rs, s6, e6, lr, hrs⟩ := lc_inv (Φ := Ph (k + 2)) (Gg := G) (tg := .v 7) (it := .rng (.cons (.op .Add (.c (.int 1)) (.call 9 (.csrc 0 (.cons (.c (.int 4)) .nil)))) .nil)) (elt := .call 9 (.csrc 0 (.cons (.c (.int 5)) .nil))) (ws := [7])
    (env := [.src, .d false (.list V1), .d false (.list ys), .d false (.tuple ls), .e, .d false (.str wt), .d false (.int m), .e, .e]) (s := s4) (s1 := s5) (pk := false) (xs := rngD 0 (1 + q).toNat) (Q := fun d => Sm 0 30 d) (rng1 (op_e (z := (.frz, .int (1 + q))) ev_c (callS1 (x := (.frz, .int 4)) rfl ev_c (by decide) p5) rfl) (by omega) (by omega)) (by rw [rngD_len, sizeL]; omega)
    (fun x _ => ⟨[.src, .d false (.list V1), .d false (.list ys), .d false (.tuple ls), .e, .d false (.str wt), .d false (.int m), .d false x, .e], by simp [bindT, putE, klE], fun s => by
      obtain ⟨y, s', e, h0, h1⟩ := pick_ok (k + 1) s 5 (by decide) (by decide)
      exact ⟨.frz, .int y, s', by decide, callS1 (x := (.frz, .int 5)) rfl ev_c (by decide) e, Sm.int (by omega)⟩⟩)
  rw [rngD_len] at lr
  rw [seq_next (asg_e (x := (.frz, .tuple rs)) (s1 := s6) (env' := [.src, .d false (.list V1), .d false (.list ys), .d false (.tuple ls), .d false (.tuple rs), .d false (.str wt), .d false (.int m), .e, .e]) (bi1 e6 rfl) (by simp [bindT, putE]))]
  have sW : Sm 0 13 (.str wt) := Sm.str hwl hwo
  have sL : Sm 1 651 (.tuple ls) := Sm.tuple (n := 21) hls (by omega)
  have sR : Sm 1 124 (.tuple rs) := Sm.tuple (n := 4) hrs (by omega)
  have sR2 : Sm 1 124 (.list rs) := Sm.list (n := 4) hrs (by omega)
  have sC : Sm 1 124 (.tuple (cutD rs none (some 1))) := Sm.tuple (n := 4) (fun x hx => hrs x (List.mem_of_mem_drop (List.mem_of_mem_take hx))) (by
    rw [List.length_take, List.length_drop]
    omega)
  let A : List D := [.str wt, .str wt, .tuple ls, .tuple rs, .list rs, .tuple [.tuple rs], .tuple [.tuple rs, .tuple (cutD rs none (some 1))], .tuple [.tuple rs, .tuple ls], .tuple []]
  have hA : ∀ d ∈ A, Sm 3 30000 d := by
    intro d hd
    simp only [A, List.mem_cons, List.not_mem_nil, or_false] at hd
    rcases hd with rfl | rfl | rfl | rfl | rfl | rfl | rfl | rfl | rfl
    · exact sW.mono (by decide) (by decide)
    · exact sW.mono (by decide) (by decide)
    · exact sL.mono (by decide) (by decide)
    · exact sR.mono (by decide) (by decide)
    · exact sR2.mono (by decide) (by decide)
    · exact (Sm.tuple (k := 1) (w := 651) (n := 2) (fun x hx => by
        obtain rfl := List.mem_singleton.mp hx
        exact sR.mono (by decide) (by decide)) (by simp)).mono (by decide) (by decide)
    · exact (Sm.tuple (k := 1) (w := 651) (n := 2) (fun x hx => by
        simp only [List.mem_cons, List.not_mem_nil, or_false] at hx
        rcases hx with rfl | rfl
        · exact sR.mono (by decide) (by decide)
        · exact sC.mono (by decide) (by decide)) (by simp)).mono (by decide) (by decide)
    · exact (Sm.tuple (k := 1) (w := 651) (n := 2) (fun x hx => by
        simp only [List.mem_cons, List.not_mem_nil, or_false] at hx
        rcases hx with rfl | rfl
        · exact sR.mono (by decide) (by decide)
        · exact sL) (by simp)).mono (by decide) (by decide)
    · exact (Sm.tuple (k := 1) (w := 651) (n := 2) (fun x hx => absurd hx List.not_mem_nil) (by simp)).mono (by decide) (by decide)
  rw [seq_next (asg_e (x := (.own, .list A)) (s1 := s6) (env' := [.src, .d true (.list A), .d false (.list ys), .d false (.tuple ls), .d false (.tuple rs), .d false (.str wt), .d false (.int m), .e, .e]) (by simp [evE, evA, evO, noPeek, biF, itemsOf, slF, intPart, R.of, sizeL, A]) (by simp [bindT, putE]))]
  have sB : Sm 2 250 (.tuple [.tuple rs, .list rs]) := (Sm.tuple (k := 1) (w := 124) (n := 2) (fun x hx => by
        simp only [List.mem_cons, List.not_mem_nil, or_false] at hx
        rcases hx with rfl | rfl
        · exact sR
        · exact sR2) (by simp)).mono (by decide) (by decide)
  rw [seq_next (app_e (k := .frz) (d := .tuple [.tuple rs, .list rs]) (s1 := s6) rfl (by simp [evE, evA, noPeek, biF, itemsOf, R.of, sizeL]) (by decide) (by simp [A, sizeL]))]
  obtain ⟨nd, s7, e7, hn⟩ := of_ok k s6 [.int 200, .int 201] (by simp) (by simp)
  obtain ⟨n, rfl, n0, n1⟩ : ∃ n : Int, nd = .int n ∧ 200 ≤ n ∧ n ≤ 201 := by
    simp only [List.mem_cons, List.not_mem_nil, or_false] at hn
    rcases hn with rfl | rfl
    · exact ⟨_, rfl, by decide, by decide⟩
    · exact ⟨_, rfl, by decide, by decide⟩
  let Bl : List D := [.none, .int 0, .bool true, .str "0", .tuple (List.replicate n.toNat [.tuple rs]).flatten, .list [.tuple rs], .tuple [.none]]
  have hB : ∀ d ∈ Bl, Sm 3 30000 d := by
    intro d hd
    simp only [Bl, List.mem_cons, List.not_mem_nil, or_false] at hd
    rcases hd with rfl | rfl | rfl | rfl | rfl | rfl | rfl
    · exact Sm.none.mono (by decide) (by decide)
    · exact (Sm.int (by decide)).mono (by decide) (by decide)
    · exact Sm.bool.mono (by decide) (by decide)
    · exact (Sm.str (w := 1) (by decide) (by decide +kernel)).mono (by decide) (by decide)
    · refine (Sm.tuple (k := 1) (w := 124) (n := 201) (fun x hx => ?_) ?_).mono (by decide) (by decide)
      · obtain ⟨l, hl, hx⟩ := List.mem_flatten.mp hx
        obtain rfl := (List.mem_replicate.mp hl).2
        obtain rfl := List.mem_singleton.mp hx
        exact sR
      · simp
        omega
    · exact (Sm.list (k := 1) (w := 124) (n := 1) (fun x hx => by
        obtain rfl := List.mem_singleton.mp hx
        exact sR) (by simp)).mono (by decide) (by decide)
    · exact (Sm.tuple (k := 0) (w := 0) (n := 1) (fun x hx => by
        obtain rfl := List.mem_singleton.mp hx
        exact Sm.none) (by simp)).mono (by decide) (by decide)
  obtain ⟨v, s8, e8, hv⟩ := of_ok k s7 ((A ++ [.tuple [.tuple rs, .list rs]]) ++ Bl) (by simp) (by simp [A, Bl])
  refine ⟨v, s8, congrArg endF (seq_ret (ret_e (callS1 (x := (.own, .list ((A ++ [.tuple [.tuple rs, .list rs]]) ++ Bl))) (s1 := s7) rfl ?_ (by simp) e8))), ?_⟩
  · refine op_e (x := (.peek, .list (A ++ [.tuple [.tuple rs, .list rs]]))) (y := (.own, .list Bl)) (vo_e rfl) ?_ ?_
    · have hm : opF .Mult (.tuple [.tuple rs]) (.int n) = some (.frz, .tuple (List.replicate n.toNat [.tuple rs]).flatten) := by
        show (if 2 ≤ n ∧ n ≤ 1000 ∧ _ ∧ _ then _ else _) = _
        rw [if_pos ⟨by omega, by omega, by simp, rfl⟩]
      simp [evE, evA, evG, noPeek, R.of, sizeL, e7, hm, Bl]
    · show opF .Add (.list _) (.list _) = _
      rw [opF_lst, if_pos (by simp [A, Bl, sizeL])]
  · rcases List.mem_append.mp hv with hv | hv
    · rcases List.mem_append.mp hv with hv | hv
      · exact hA v hv
      · obtain rfl := List.mem_singleton.mp hv
        exact sB.mono (by decide) (by decide)
    · exact hB v hv
end K01
set_option maxHeartbeats 2000000
/-! K01Y: the plain law of k01. -/
namespace K01
open PySem PySem.Spec PyProof.Rows L2 Tre _root_.SX

/-! ### what the lexers tell is small -/
theorem al_ok {c : Nat} (h : c ∈ tl AL) : c < 0x110000 := by
  have : ∀ c ∈ tl AL, c < 0x110000 := by decide +kernel
  exact this c h
theorem sg_ok {c : Nat} (h : c ∈ tl SG) : c < 0x110000 := by
  have : ∀ c ∈ tl SG, c < 0x110000 := by decide +kernel
  exact this c h
theorem lex_sm {a y : Str} {p : Nat} (h1 : a.length ≤ 4) (h2 : PyData.strOk a = true) (h3 : PyData.strOk y = true) (hp : p < 1000000) :
    sml (.tuple [.str a, .str y, .int p]) = true ∧ PyData.depth (.tuple [.str a, .str y, .int p]) ≤ 1 ∧ PyData.weight (.tuple [.str a, .str y, .int p]) ≤ y.length + 37 := by
  have hi := Sm.int (i := (p : Int)) (by omega)
  refine ⟨?_, by simp [PyData.depth, PyData.depthAll], ?_⟩
  · have := hi.s
    simp [sml, smlA, h2, h3] at *
    omega
  · have := hi.wt
    have e1 : a.cps.size ≤ 4 := h1
    have e2 : y.cps.size = y.length := rfl
    simp only [PyData.weight, PyData.weightAll] at *
    omega
theorem lx_sm : ∀ (l : List Nat) (p : Nat) (found : List D) (w : List Nat) (f : Nat) (fd : List D), lx l p found w f = .inl fd → p + l.length ≤ 1000 → f ≤ p → (∀ c ∈ w, c < 0x110000) → (∀ d ∈ found, sml d = true ∧ d.depth ≤ 1) → PyData.weightAll found + w.length ≤ 80 * p →
    (∀ d ∈ fd, sml d = true ∧ d.depth ≤ 1) ∧ PyData.weightAll fd ≤ 80 * (p + l.length)
  | [], p, found, w, f, fd, h, hp, hf, hw, hd, hz => by
    cases h
    refine ⟨hd, ?_⟩
    simp
    omega
  | c :: r, p, found, w, f, fd, h, hp, hf, hw, hd, hz => by
    have hp : p + (r.length + 1) ≤ 1000 := hp
    have e0 : p + (c :: r).length = p + 1 + r.length := by rw [List.length_cons]; omega
    rw [e0]
    rw [lx] at h
    -- behind a word
    have hput : ∀ fd', fd' = (if w = [] then found else found ++ [wordD w f]) → (∀ d ∈ fd', sml d = true ∧ d.depth ≤ 1) ∧ PyData.weightAll fd' ≤ 80 * p + 38 := by
      intro fd' e
      by_cases hw0 : w = []
      · rw [if_pos hw0] at e
        subst e
        exact ⟨hd, by omega⟩
      · rw [if_neg hw0] at e
        subst e
        obtain ⟨q1, q2, q3⟩ := lex_sm (a := "word") (y := S w) (p := f) (by decide) (by decide +kernel) (by rw [ok_S]; exact List.all_eq_true.mpr fun c hc => decide_eq_true (hw c hc)) (by omega)
        refine ⟨fun d hm => ?_, ?_⟩
        · rcases List.mem_append.mp hm with hm | hm
          · exact hd d hm
          · obtain rfl := List.mem_singleton.mp hm
            exact ⟨q1, q2⟩
        · rw [weightAll_app]
          have e2 : PyData.weightAll [wordD w f] = (wordD w f).weight + 1 := by simp [PyData.weightAll]
          have q3 : (wordD w f).weight ≤ (S w).length + 37 := q3
          rw [S_len] at q3
          omega
    obtain ⟨g1, g2⟩ := hput _ rfl
    by_cases ca : c ∈ tl AL
    · rw [if_pos ca] at h
      refine lx_sm r (p + 1) found (w ++ [c]) _ fd h (by omega) (by split <;> omega) (fun d hm => ?_) hd (by simp; omega)
      rcases List.mem_append.mp hm with hm | hm
      · exact hw d hm
      · obtain rfl := List.mem_singleton.mp hm
        exact al_ok ca
    · rw [if_neg ca] at h
      by_cases cs : c ∈ tl SG
      · rw [if_pos cs] at h
        obtain ⟨q1, q2, q3⟩ := lex_sm (a := "sign") (y := S [c]) (p := p) (by decide) (by decide +kernel) (by rw [ok_S]; simp; exact sg_ok cs) (by omega)
        refine lx_sm r (p + 1) _ [] f fd h (by omega) (by omega) (fun d hm => absurd hm List.not_mem_nil) (fun d hm => ?_) ?_
        · rcases List.mem_append.mp hm with hm | hm
          · exact g1 d hm
          · obtain rfl := List.mem_singleton.mp hm
            exact ⟨q1, q2⟩
        · rw [weightAll_app]
          have e2 : PyData.weightAll [signD c p] = (signD c p).weight + 1 := by simp [PyData.weightAll]
          have q3 : (signD c p).weight ≤ (S [c]).length + 37 := q3
          rw [S_len] at q3
          simp only [List.length_cons, List.length_nil] at *
          omega
      · rw [if_neg cs] at h
        by_cases cb : c ∈ tl BL
        · rw [if_pos cb] at h
          exact lx_sm r (p + 1) _ [] f fd h (by omega) (by omega) (fun d hm => absurd hm List.not_mem_nil) g1 (by simp only [List.length_nil]; omega)
        · rw [if_neg cb] at h
          cases h
theorem lx_wr : ∀ (l : List Nat) (p : Nat) (found : List D) (w : List Nat) (f q : Nat), lx l p found w f = .inr q → q < p + l.length
  | [], _, _, _, _, _, h => by cases h
  | c :: r, p, found, w, f, q, h => by
    rw [List.length_cons]
    rw [lx] at h
    split at h
    · have := lx_wr r _ _ _ _ q h; omega
    · split at h
      · have := lx_wr r _ _ _ _ q h; omega
      · split at h
        · have := lx_wr r _ _ _ _ q h; omega
        · cases h; omega
/-- both lexers tell one small thing -/
theorem told_ok (s : Src) (x : Str) (hx : x.length ≤ 400) : ∃ (t : D) (z : Str), biF .repr [t] = some (.frz, .str z) ∧ Ph 4 11 [.d (.str x)] s = .ok (false, t) s ∧
    ∀ (env : Tre.Env), env[4]? = some (.d false (.str x)) → evE (Ph 4) G (.told 2 0 "told" "wrong" (.cons (.v 4) .nil)) env s = .ok (.frz, t) s := by
  obtain ⟨a1, a2⟩ := lexemes_ok 1 s x (by omega)
  obtain ⟨b1, b2⟩ := lexed_ok 3 s x (by omega)
  have hl : (tl x ++ [32]).length ≤ 401 := by
    have h0 : (tl x).length ≤ 400 := hx
    rw [List.length_append]
    simp only [List.length_cons, List.length_nil]
    omega
  cases q : lx (tl x ++ [32]) 0 [] [] 0 with
  | inl fd =>
    obtain ⟨g1, g2⟩ := lx_sm _ 0 [] [] 0 fd q (by omega) (by omega) (fun d hm => absurd hm List.not_mem_nil) (fun d hm => absurd hm List.not_mem_nil) (by simp [PyData.weightAll])
    have sm : Sm 3 60000 (.tuple [.str "told", .list fd]) := by
      refine ⟨?_, ?_, ?_⟩
      · have h1 : smlA fd = true := smlA_iff.mpr fun d hd => (g1 d hd).1
        have h2 : PyData.strOk ("told" : Str) = true := by decide +kernel
        simp [sml, smlA, h1, h2]
      · have := depthAll_le (k := 1) fun d hd => (g1 d hd).2
        simp only [PyData.depth, PyData.depthAll]
        omega
      · have e : ("told" : Str).cps.size = 4 := by decide
        simp only [PyData.weight, PyData.weightAll, e]
        omega
    refine ⟨_, _, shown_ok sm (by decide) (by decide), b1 fd q, fun env he => ?_⟩
    have h1 : Ph 4 2 [.d (.str x)] s = .ok (true, .list fd) s := a1 fd q
    simp [evE, evG, he, R.calm, h1]
  | inr p =>
    have hp := lx_wr _ _ _ _ _ _ q
    have sm : Sm 1 200 (.tuple [.str "wrong", .int p]) := (Sm.tuple (k := 0) (w := 30) (n := 2) (fun d hd => by
      simp only [List.mem_cons, List.not_mem_nil, or_false] at hd
      rcases hd with rfl | rfl
      · exact (Sm.str (w := 5) (by decide) (by decide +kernel)).mono (by decide) (by decide)
      · exact Sm.int (by omega)) (by simp)).mono (by decide) (by decide)
    refine ⟨_, _, shown_ok sm (by decide) (by decide), b2 p q, fun env he => ?_⟩
    have h1 : Ph 4 2 [.d (.str x)] s = .exc 0 [.int p] s := a2 p q
    simp [evE, evG, he, R.calm, h1]

/-! ### a lap -/
def lapB : T := (.seq (.asg (.v 4) (.call 12 (.csrc 1 .nil))) (.seq (.ifs (.cmp .NotEq (.bi .repr (.cons (.told 2 0 "told" "wrong" (.cons (.v 4) .nil)) .nil)) (.bi .repr (.cons (.call 11 (.cons (.v 4) .nil)) .nil))) (.seq (.ret (.c (.bool false))) .nil) .nil) (.seq (.asg (.v 5) (.call 16 (.csrc 1 .nil))) (.seq (.asg (.v 6) (.bi .repr (.cons (.v 5) .nil))) (.seq (.asg (.v 7) (.and (.isi "tuple" (.v 5)) (.cmp .Lt (.bi .len (.cons (.v 5) .nil)) (.c (.int 201))))) (.seq (.asg (.v 7) (.and (.v 7) (.cmp .Eq (.lc (.v 10) (.it (.v 5)) (.not (.call 14 (.cons (.v 10) .nil))) (.v 10) [10]) (.lst .nil)))) (.seq (.asg (.v 3) (.lst (.cons (.call 3 (.cons (.v 5) .nil)) (.cons (.call 5 (.cons (.v 5) .nil)) (.cons (.call 6 (.cons (.v 5) .nil)) .nil))))) (.seq (.ifs (.or (.cmp .NotEq (.bi .repr (.cons (.v 3) .nil)) (.bi .repr (.cons (.lst (.cons (.call 15 (.cons (.v 5) .nil)) (.cons (.call 14 (.cons (.v 5) .nil)) (.cons (.v 7) .nil)))) .nil))) (.cmp .NotEq (.bi .repr (.cons (.v 5) .nil)) (.v 6))) (.seq (.ret (.c (.bool false))) .nil) .nil) (.seq (.ifs (.v 7) (.seq (.asg (.v 8) (.lc (.v 9) (.it (.v 5)) (.c (.bool true)) (.me .join (.c (.str " ")) (.cons (.lc (.v 11) (.it (.v 9)) (.c (.bool true)) (.bi .str (.cons (.v 11) .nil)) [11]) .nil)) [9])) (.seq (.ifs (.cmp .NotEq (.bi .repr (.cons (.call 8 (.cons (.v 5) .nil)) .nil)) (.bi .repr (.cons (.op .Add (.op .Add (.c (.str "(")) (.me .join (.c (.str ", ")) (.cons (.v 8) .nil))) (.c (.str ")"))) .nil))) (.seq (.ret (.c (.bool false))) .nil) .nil) .nil)) .nil) .nil)))))))))
def endB : T := (.seq (.asg (.v 3) (.lst (.cons (.call 3 (.cons (.c (.str "numbers")) .nil)) (.cons (.call 3 (.cons (.c (.str "number")) .nil)) (.cons (.call 5 (.cons (.tup (.cons (.c (.int 4)) (.cons (.c (.int 0)) .nil))) .nil)) (.cons (.call 5 (.cons (.op .Mult (.tup (.cons (.c (.int 0)) .nil)) (.c (.int 20))) .nil)) (.cons (.call 6 (.cons (.tup .nil) .nil)) .nil))))))) (.seq (.ret (.cmp .Eq (.bi .repr (.cons (.op .Add (.v 3) (.lst (.cons (.call 8 (.cons (.tup .nil) .nil)) .nil))) .nil)) (.bi .repr (.cons (.lst (.cons (.c (.bool false)) (.cons (.c (.bool true)) (.cons (.c (.bool true)) (.cons (.c (.bool true)) (.cons (.c (.bool true)) (.cons (.c (.str "()")) .nil))))))) .nil)))) .nil))
theorem law_eq : b_law = .seq (.for (.v 2) (.rng (.cons (.c (.int 6)) .nil)) lapB) endB := rfl
def LE (a2 a3 a4 a5 a6 a7 a8 a9 a10 a11 : Slot) : Tre.Env := [.e, .src, a2, a3, a4, a5, a6, a7, a8, a9, a10, a11]
theorem ne_str (a : Str) : cmpF .NotEq (.str a) (.str a) = some false := by
  rw [cmpF, eqF_str, beq_self_eq_true]
  rfl
section
variable {env : Tre.Env} {s s1 s2 : Src} {a b c : T}
/-- two texts that are one -/
theorem same_text {Φ : Nat → List Tre.Arg → Src → R (Bool × D)} {Gg : Nat → Option D} {k1 k2 : Kd} {t : D} {z : Str} (h1 : evE Φ Gg a env s = .ok (k1, t) s) (h2 : evE Φ Gg b env s = .ok (k2, t) s) (hz : biF .repr [t] = some (.frz, .str z)) :
    evE Φ Gg (.cmp .NotEq (.bi .repr (.cons a .nil)) (.bi .repr (.cons b .nil))) env s = .ok (.frz, .bool false) s :=
  cmp_e (bi1 h1 hz) (bi1 h2 hz) (ne_str z)
end
theorem one_ok (s : Src) (v : D) {a2 a3 a4 a6 a7 a8 a9 a10 a11 : Slot} : ∃ b7, evS (Ph 4) G (.asg (.v 7) (.and (.isi "tuple" (.v 5)) (.cmp .Lt (.bi .len (.cons (.v 5) .nil)) (.c (.int 201))))) (LE a2 a3 a4 (.d false v) a6 a7 a8 a9 a10 a11) s = .ok (.next (LE a2 a3 a4 (.d false v) a6 (.d false b7) a8 a9 a10 a11)) s ∧
    evE (Ph 4) G (.and (.v 7) (.cmp .Eq (.lc (.v 10) (.it (.v 5)) (.not (.call 14 (.cons (.v 10) .nil))) (.v 10) [10]) (.lst .nil))) (LE a2 a3 a4 (.d false v) a6 (.d false b7) a8 a9 a10 a11) s = .ok (.frz, .bool (isBeg v)) s := by
  have put : ∀ d, bindT (.v 7) (.frz, d) (LE a2 a3 a4 (.d false v) a6 a7 a8 a9 a10 a11) = some (LE a2 a3 a4 (.d false v) a6 (.d false d) a8 a9 a10 a11) := fun d => by simp [bindT, putE, LE]
  by_cases hv : ∃ xs, v = .tuple xs
  · obtain ⟨xs, rfl⟩ := hv
    by_cases h : xs.length ≤ 200
    · refine ⟨.bool true, asg_e (x := (.frz, .bool true)) ?_ (put _), ?_⟩
      · unfold LE
        simp [evE, evA, isiF, biF, cmpF, i2F, truth, R.of]
        omega
      · have lc := lc_gen (Φ := Ph 4) (Gg := G) (tg := .v 10) (it := .it (.v 5)) (cond := .not (.call 14 (.cons (.v 10) .nil))) (elt := .v 10) (ws := [10]) (env := LE a2 a3 a4 (.d false (.tuple xs)) a6 (.d false (.bool true)) a8 a9 a10 a11) (s := s) (s1 := s) (pk := false) (xs := xs) (p := fun x => !isLab x) (g := fun x => x)
          (by simp [evI, evE, itF, R.of, LE]) (by rw [sizeL]; omega) (fun x hx => ⟨LE a2 a3 a4 (.d false (.tuple xs)) a6 (.d false (.bool true)) a8 a9 (.d false x) a11, by simp [bindT, putE, klE, LE], ⟨.frz, not_e (call1 (x := (.frz, x)) (v_e rfl) (by simp) (lab_l 2 s x))⟩, fun _ => ⟨.frz, by decide, v_e rfl⟩⟩)
        rw [List.map_id'] at lc
        have e : isBeg (.tuple xs) = (xs.filter fun x => !isLab x).isEmpty := by
          simp only [isBeg, h, decide_true, Bool.true_and]
          rw [Bool.eq_iff_iff, List.isEmpty_iff, List.filter_eq_nil_iff, List.all_eq_true]
          simp
        rw [e, and_t (x := (.frz, .bool true)) (s1 := s) (v_e rfl) rfl]
        exact cmp_e (o := .Eq) (y := (.own, .list [])) lc (lst_e ea_nil rfl (by decide)) (eqF_nil _)
    · refine ⟨.bool false, asg_e (x := (.frz, .bool false)) ?_ (put _), ?_⟩
      · unfold LE
        simp [evE, evA, isiF, biF, cmpF, i2F, truth, R.of]
        omega
      · have e : isBeg (.tuple xs) = false := by simp [isBeg, h]
        rw [e]
        exact and_f (x := (.frz, .bool false)) (v_e rfl) rfl
  · have e : isBeg v = false ∧ isiF "tuple" v = false := by
      cases v
      case tuple xs => exact absurd ⟨xs, rfl⟩ hv
      all_goals exact ⟨rfl, rfl⟩
    refine ⟨.bool false, asg_e (x := (.frz, .bool false)) ?_ (put _), ?_⟩
    · unfold LE
      simp [evE, e.2, truth]
    · rw [e.1]
      exact and_f (x := (.frz, .bool false)) (v_e rfl) rfl
theorem lap_ok (s : Src) (a2 a3 a4 a5 a6 a7 a8 a9 a10 a11 : Slot) : ∃ b3 b4 b5 b6 b7 b8 b9 b10 b11 s', evS (Ph 4) G lapB (LE a2 a3 a4 a5 a6 a7 a8 a9 a10 a11) s = .ok (.next (LE a2 b3 b4 b5 b6 b7 b8 b9 b10 b11)) s' := by
  obtain ⟨x, s1, ex, hx, hxo⟩ := text_ok 1 s
  obtain ⟨t, z, hz, et, ft⟩ := told_ok s1 x hx
  obtain ⟨v, s2, ev, hv⟩ := val_ok 1 s1
  have hzv := shown_ok hv (by decide) (by decide)
  unfold lapB
  rw [seq_next (asg_e (x := (.frz, .str x)) (s1 := s1) (env' := LE a2 a3 (.d false (.str x)) a5 a6 a7 a8 a9 a10 a11) (callS rfl ex) (by simp [bindT, putE, LE]))]
  rw [seq_next (env' := LE a2 a3 (.d false (.str x)) a5 a6 a7 a8 a9 a10 a11) (s' := s1) (by
    rw [ifs_f (same_text (ft _ rfl) (call1 (x := (.frz, .str x)) (v_e rfl) (by simp) et) hz) rfl]
    rfl)]
  rw [seq_next (asg_e (x := (.frz, v)) (s1 := s2) (env' := LE a2 a3 (.d false (.str x)) (.d false v) a6 a7 a8 a9 a10 a11) (callS rfl ev) (by simp [bindT, putE, LE]))]
  rw [seq_next (asg_e (s1 := s2) (env' := LE a2 a3 (.d false (.str x)) (.d false v) (.d false (.str v.shown)) a7 a8 a9 a10 a11) (bi1 (x := (.frz, v)) (v_e rfl) hzv) (by simp [bindT, putE, LE]))]
  obtain ⟨b7, o1, o2⟩ := one_ok s2 v (a2 := a2) (a3 := a3) (a4 := .d false (.str x)) (a6 := .d false (.str v.shown)) (a7 := a7) (a8 := a8) (a9 := a9) (a10 := a10) (a11 := a11)
  rw [seq_next o1]
  rw [seq_next (asg_e (env' := LE a2 a3 (.d false (.str x)) (.d false v) (.d false (.str v.shown)) (.d false (.bool (isBeg v))) a8 a9 a10 a11) o2 (by simp [bindT, putE, LE]))]
  have c3 : Ph 4 3 [.d v] s2 = .ok (false, .bool (isNam v)) s2 := nam_p 3 s2 v
  have c5 : Ph 4 5 [.d v] s2 = .ok (false, .bool (isLab v)) s2 := lab_p 2 s2 v
  have c6 : Ph 4 6 [.d v] s2 = .ok (false, .bool (isBeg v)) s2 := beg_p 1 s2 v
  have c15 : Ph 4 15 [.d v] s2 = .ok (false, .bool (isNam v)) s2 := nam_l 3 s2 v
  have c14 : Ph 4 14 [.d v] s2 = .ok (false, .bool (isLab v)) s2 := lab_l 2 s2 v
  let B : List D := [.bool (isNam v), .bool (isLab v), .bool (isBeg v)]
  have sB : Sm 1 10 (.list B) := (Sm.list (k := 0) (w := 0) (n := 3) (fun d hd => by
    simp only [B, List.mem_cons, List.not_mem_nil, or_false] at hd
    rcases hd with rfl | rfl | rfl <;> exact Sm.bool) (by simp [B])).mono (by decide) (by decide)
  have hzB := shown_ok sB (by decide) (by decide)
  rw [seq_next (asg_e (x := (.own, .list B)) (s1 := s2) (env' := LE a2 (.d false (.list B)) (.d false (.str x)) (.d false v) (.d false (.str v.shown)) (.d false (.bool (isBeg v))) a8 a9 a10 a11)
    (lst_e (ea_cons (call1 (x := (.frz, v)) (v_e rfl) (by simp) c3) (ea_cons (call1 (x := (.frz, v)) (v_e rfl) (by simp) c5) (ea_cons (call1 (x := (.frz, v)) (v_e rfl) (by simp) c6) ea_nil))) (by simp [noPeek, B]) (by simp [B, sizeL])) (by simp [bindT, putE, LE]))]
  rw [seq_next (env' := LE a2 (.d false (.list B)) (.d false (.str x)) (.d false v) (.d false (.str v.shown)) (.d false (.bool (isBeg v))) a8 a9 a10 a11) (s' := s2) (by
    rw [ifs_f ((or_f (same_text (z := PyData.shown (.list B)) (t := .list B) (v_e rfl) (lst_e (ea_cons (call1 (x := (.frz, v)) (v_e rfl) (by simp) c15) (ea_cons (call1 (x := (.frz, v)) (v_e rfl) (by simp) c14) (ea_cons (v_e rfl) ea_nil))) (by simp [noPeek, B]) (by simp [B, sizeL])) hzB) rfl).trans (cmp_e (o := .NotEq) (bi1 (x := (.frz, v)) (v_e rfl) hzv) (v_e rfl) (ne_str _))) rfl]
    rfl)]
  cases hb : isBeg v with
  | false =>
    rw [seq_next (env' := LE a2 (.d false (.list B)) (.d false (.str x)) (.d false v) (.d false (.str v.shown)) (.d false (.bool false)) a8 a9 a10 a11) (s' := s2) (by
      rw [ifs_f (x := (.frz, .bool false)) (s' := s2) (v_e rfl) rfl]
      rfl)]
    exact ⟨_, _, _, _, _, _, _, _, _, s2, rfl⟩
  | true =>
    obtain ⟨xs, rfl, hl, hx2⟩ := beg_of hb
    have lc := lc_gen (Φ := Ph 4) (Gg := G) (tg := .v 9) (it := .it (.v 5)) (cond := .c (.bool true)) (elt := .me .join (.c (.str " ")) (.cons (.lc (.v 11) (.it (.v 9)) (.c (.bool true)) (.bi .str (.cons (.v 11) .nil)) [11]) .nil)) (ws := [9])
      (env := LE a2 (.d false (.list B)) (.d false (.str x)) (.d false (.tuple xs)) (.d false (.str (PyData.shown (.tuple xs)))) (.d false (.bool true)) a8 a9 a10 a11) (s := s2) (s1 := s2) (pk := false) (xs := xs) (p := fun _ => true) (g := fun y => .str (labT y))
      (by simp [evI, evE, itF, R.of, LE]) (by rw [sizeL]; omega) (fun d hd => ⟨LE a2 (.d false (.list B)) (.d false (.str x)) (.d false (.tuple xs)) (.d false (.str (PyData.shown (.tuple xs)))) (.d false (.bool true)) a8 (.d false d) a10 a11, by simp [bindT, putE, klE, LE], ⟨_, rfl⟩, fun _ => ⟨.frz, by decide, lab_join (hx2 d hd) rfl (by simp [LE])⟩⟩)
    rw [filter_true] at lc
    have hzT := shown_ok (begT_sm hl hx2) (by decide) (by decide)
    have c8 : Ph 4 8 [.d (.tuple xs)] s2 = .ok (false, .str (begT xs)) s2 := begt_p 2 s2 xs hl hx2
    let E8 := LE a2 (.d false (.list B)) (.d false (.str x)) (.d false (.tuple xs)) (.d false (.str (PyData.shown (.tuple xs)))) (.d false (.bool true)) (.d false (.list (xs.map fun y => .str (labT y)))) a9 a10 a11
    refine ⟨_, _, _, _, _, _, _, _, _, s2, seq_next (env' := E8) (s' := s2) ?_⟩
    rw [ifs_t (x := (.frz, .bool true)) (s' := s2) (v_e rfl) rfl]
    rw [seq_next (asg_e (s1 := s2) (env' := E8) lc (by simp [bindT, putE, LE, E8]))]
    rw [seq_next (env' := E8) (s' := s2) (by
      rw [ifs_f (same_text (t := .str (begT xs)) (call1 (x := (.frz, .tuple xs)) (v_e rfl) (by simp) c8) (op_e (op_e ev_c (me1 ev_c rfl (v_e rfl) (join2 hl hx2).1) (op_beg hl hx2).1) ev_c (op_beg hl hx2).2) hzT) rfl]
      rfl)]
    rfl
theorem end_ok (s : Src) (a2 a3 a4 a5 a6 a7 a8 a9 a10 a11 : Slot) : evS (Ph 4) G endB (LE a2 a3 a4 a5 a6 a7 a8 a9 a10 a11) s = .ok (.ret false (.bool true)) s := by
  unfold endB
  have n1 : Ph 4 3 [.d (.str "numbers")] s = .ok (false, .bool false) s := by
    have e : isNam (.str "numbers") = false := by decide +kernel
    rw [← e]
    exact nam_p 3 s _
  have n2 : Ph 4 3 [.d (.str "number")] s = .ok (false, .bool true) s := by
    have e : isNam (.str "number") = true := by decide +kernel
    rw [← e]
    exact nam_p 3 s _
  have l1 : Ph 4 5 [.d (.tuple [.int 4, .int 0])] s = .ok (false, .bool true) s := by
    have e : isLab (.tuple [.int 4, .int 0]) = true := by decide +kernel
    rw [← e]
    exact lab_p 2 s _
  have l2 : Ph 4 5 [.d (.tuple (List.replicate 20 [PyData.int 0]).flatten)] s = .ok (false, .bool true) s := by
    have e : isLab (.tuple (List.replicate 20 [PyData.int 0]).flatten) = true := by decide +kernel
    rw [← e]
    exact lab_p 2 s _
  have b1 : Ph 4 6 [.d (.tuple [])] s = .ok (false, .bool true) s := by
    have e : isBeg (.tuple []) = true := by decide +kernel
    rw [← e]
    exact beg_p 1 s _
  have b2 : Ph 4 8 [.d (.tuple [])] s = .ok (false, .str "()") s := by
    have e : begT [] = ("()" : Str) := by decide +kernel
    rw [← e]
    exact begt_p 2 s [] (by simp) (fun x hx => absurd hx List.not_mem_nil)
  let B : List D := [.bool false, .bool true, .bool true, .bool true, .bool true]
  have sB : Sm 1 100 (.list (B ++ [.str "()"])) := (Sm.list (k := 0) (w := 2) (n := 6) (fun d hd => by
    simp only [B, List.cons_append, List.nil_append, List.mem_cons, List.not_mem_nil, or_false] at hd
    rcases hd with rfl | rfl | rfl | rfl | rfl | rfl
    all_goals first | exact Sm.bool.mono (by decide) (by decide) | exact Sm.str (by decide) (by decide +kernel)) (by simp [B])).mono (by decide) (by decide)
  have hz := shown_ok sB (by decide) (by decide)
  have hm : opF .Mult (.tuple [.int 0]) (.int 20) = some (.frz, .tuple (List.replicate 20 [PyData.int 0]).flatten) := opF_rep [.int 0] 20 ⟨by decide, by decide, by simp, rfl⟩
  have t1 : evE (Ph 4) G (.tup (.cons (.c (.int 4)) (.cons (.c (.int 0)) .nil))) (LE a2 a3 a4 a5 a6 a7 a8 a9 a10 a11) s = .ok (.frz, .tuple [.int 4, .int 0]) s := by simp [evE, evA, noPeek, R.of, sizeL]
  have t2 : evE (Ph 4) G (.op .Mult (.tup (.cons (.c (.int 0)) .nil)) (.c (.int 20))) (LE a2 a3 a4 a5 a6 a7 a8 a9 a10 a11) s = .ok (.frz, .tuple (List.replicate 20 [PyData.int 0]).flatten) s :=
    op_e (x := (.frz, .tuple [.int 0])) (by simp [evE, evA, noPeek, R.of, sizeL]) ev_c hm
  have t3 : ∀ env : Tre.Env, evE (Ph 4) G (.tup .nil) env s = .ok (.frz, .tuple []) s := fun env => by simp [evE, evA, noPeek, R.of, sizeL]
  rw [seq_next (asg_e (x := (.own, .list B)) (s1 := s) (env' := LE a2 (.d false (.list B)) a4 a5 a6 a7 a8 a9 a10 a11)
    (lst_e (ea_cons (call1 (x := (.frz, .str "numbers")) ev_c (by simp) n1) (ea_cons (call1 (x := (.frz, .str "number")) ev_c (by simp) n2) (ea_cons (call1 t1 (by simp) l1) (ea_cons (call1 t2 (by simp) l2) (ea_cons (call1 (t3 _) (by simp) b1) ea_nil))))) (by simp [noPeek, B]) (by simp [B, sizeL])) (by simp [bindT, putE, LE]))]
  refine seq_ret (ret_e (k := .frz) (d := .bool true) (s1 := s) ?_)
  have e1 : evE (Ph 4) G (.op .Add (.v 3) (.lst (.cons (.call 8 (.cons (.tup .nil) .nil)) .nil))) (LE a2 (.d false (.list B)) a4 a5 a6 a7 a8 a9 a10 a11) s = .ok (.own, .list (B ++ [.str "()"])) s :=
    op_e (x := (.frz, .list B)) (y := (.own, .list [.str "()"])) (v_e rfl) (lst_e (ea_cons (call1 (t3 _) (by simp) b2) ea_nil) (by simp [noPeek]) (by simp [sizeL])) (by
      show opF .Add (.list _) (.list _) = _
      rw [opF_lst, if_pos (by simp [B, sizeL])])
  have e2 : evE (Ph 4) G (.lst (.cons (.c (.bool false)) (.cons (.c (.bool true)) (.cons (.c (.bool true)) (.cons (.c (.bool true)) (.cons (.c (.bool true)) (.cons (.c (.str "()")) .nil))))))) (LE a2 (.d false (.list B)) a4 a5 a6 a7 a8 a9 a10 a11) s = .ok (.own, .list (B ++ [.str "()"])) s := by
    simp [evE, evA, noPeek, R.of, sizeL, B]
  exact cmp_e (o := .Eq) (bi1 e1 hz) (bi1 e2 hz) (by
    show eqF (.str _) (.str _) = _
    rw [eqF_str, beq_self_eq_true])
theorem plain (s : Src) : ∃ o s', evS (Phi P (gOf cons) 4) (gOf cons) b_law (lawE N_law.length) s = .ok (.ret o (.bool true)) s' := by
  rw [law_eq]
  have e0 : lawE N_law.length = LE .e .e .e .e .e .e .e .e .e .e := rfl
  rw [e0]
  have hi : evI (Ph 4) G (.rng (.cons (.c (.int 6)) .nil)) (LE .e .e .e .e .e .e .e .e .e .e) s = .ok (false, rngD 0 6) s := rng1 (i := 6) ev_c (by decide) (by decide)
  obtain ⟨env', s2, e2, a2, a3, a4, a5, a6, a7, a8, a9, a10, a11, rfl⟩ := forL_inv (f := fun x env s => (R.of (bindT (.v 2) (.frz, x) env) s).bind fun env' s => evS (Ph 4) G lapB env' s) (xs := rngD 0 6) (i := 0) (env := LE .e .e .e .e .e .e .e .e .e .e) (s := s)
    (I := fun _ env => ∃ a2 a3 a4 a5 a6 a7 a8 a9 a10 a11, env = LE a2 a3 a4 a5 a6 a7 a8 a9 a10 a11) (fun i x env s _ ⟨a2, a3, a4, a5, a6, a7, a8, a9, a10, a11, he⟩ => by
      subst he
      have eb : bindT (.v 2) (.frz, x) (LE a2 a3 a4 a5 a6 a7 a8 a9 a10 a11) = some (LE (.d false x) a3 a4 a5 a6 a7 a8 a9 a10 a11) := by simp [bindT, putE, LE]
      obtain ⟨b3, b4, b5, b6, b7, b8, b9, b10, b11, s', e⟩ := lap_ok s (.d false x) a3 a4 a5 a6 a7 a8 a9 a10 a11
      refine ⟨LE (.d false x) b3 b4 b5 b6 b7 b8 b9 b10 b11, s', ?_, _, _, _, _, _, _, _, _, _, _, rfl⟩
      rw [eb, R.of_some, R.bind_ok]
      exact e) ⟨_, _, _, _, _, _, _, _, _, _, rfl⟩
  have e2' := for_e (Φ := Ph 4) (Gg := G) (tg := .v 2) (b := lapB) hi e2
  exact ⟨false, s2, (seq_next e2').trans (end_ok s2 a2 a3 a4 a5 a6 a7 a8 a9 a10 a11)⟩
end K01
set_option maxHeartbeats 0
/-! K01H: the head of law k01. -/
namespace K01
open PySem PySem.Spec PyProof.Rows L2 Tre LamX
/-! ### the head -/
def top (i : Nat) : Stmt := PySem.Challenge.pw_wiredlaws_k01_lexemes_names_and_labels.main.body.getD i (.Pass ⟨0, 0, 0, 0⟩)
def ds : List Dd := [⟨"run_behind", top 13, N_run_behind⟩, ⟨"lexeme_from", top 14, N_lexeme_from⟩, ⟨"lexemes", top 15, N_lexemes⟩, ⟨"is_name", top 16, N_is_name⟩, ⟨"is_between", top 17, N_is_between⟩, ⟨"is_label", top 18, N_is_label⟩, ⟨"is_beginning", top 19, N_is_beginning⟩, ⟨"label_text", top 20, N_label_text⟩, ⟨"beginning_text", top 21, N_beginning_text⟩, ⟨"_law_pick", top 24, N__law_pick⟩, ⟨"_law_of", top 25, N__law_of⟩, ⟨"_law_lexed", top 27, N__law_lexed⟩, ⟨"_law_text", top 28, N__law_text⟩, ⟨"_law_number", top 29, N__law_number⟩, ⟨"_law_is_label", top 30, N__law_is_label⟩, ⟨"_law_is_name", top 31, N__law_is_name⟩, ⟨"_law_value", top 32, N__law_value⟩]
def xcl : List (Str × List Str) := [("BadText", ["place"])]
def dd (x : Str) (i : Nat) : He.DefD := ⟨(x, none), x, x, defArgs (top i), defBody (top i), defScope (top i), [], []⟩
def fn : List He.DefD := [dd "run_behind" 13, dd "lexeme_from" 14, dd "lexemes" 15, dd "is_name" 16, dd "is_between" 17, dd "is_label" 18, dd "is_beginning" 19, dd "label_text" 20, dd "beginning_text" 21, dd "_law_pick" 24, dd "_law_of" 25, dd "_law_lexed" 27, dd "_law_text" 28, dd "_law_number" 29, dd "_law_is_label" 30, dd "_law_is_name" 31, dd "_law_value" 32, dd "_law_source" 23, dd "law" 33, dd "_law_raised" 26]
def globs : List Str := ["run_behind", "lexeme_from", "lexemes", "is_name", "is_between", "is_label", "is_beginning", "label_text", "beginning_text", "_law_pick", "_law_of", "_law_lexed", "_law_text", "_law_number", "_law_is_label", "_law_is_name", "_law_value", "_law_source", "law", "_law_raised", "BadText"]
def fa : List He.Fa := globs.map .glo ++ bltNames.map .free
def tf : List He.Defn := [(("law" : Str), none)]
def ex (K : PySem.W.Frag) : Bool := cons.all (fun p => cnB K p.1 p.2) && xcl.all (fun p => supB K PySem.Challenge.pw_wiredlaws_k01_lexemes_names_and_labels.main.file p.1 p.2) && catB K "BadText" "place"
abbrev R : PySem.W.OpenRow := PySem.W.OpenLaw.row PySem.Challenge.rw_wiredlaws_k01_lexemes_names_and_labels
abbrev hk : PySem.W.Hook := hookS 5 fa fn tf ex
def ob (s : PySem.W.SharedT) : He.AlX := obsS 5 fa fn tf ex (HandSHeadRun.getT s)
theorem ob_eq (s : PySem.W.SharedT) : ob s = hk.obs s.abs := obsS_eq (HandSHeadRun.getT_eq s)
def loose : List Str := ["__name__", "WireError", "BadText", "BLANKS", "SIGNS", "SMALL", "FIGURES", "MOST_SIGNS", "MOST_NUMBER", "MOST_WIRES", "MOST_MOMENTS", "KEPT", "run_behind", "lexeme_from", "lexemes", "is_name", "is_between", "is_label", "is_beginning", "label_text", "beginning_text", "_law_source", "_law_pick", "_law_of", "_law_raised", "_law_lexed", "_law_text", "_law_number", "_law_is_label", "_law_is_name", "_law_value"]
theorem run (w : World) : HandSHeadRun.RunEq R (PySem.W.view R.prog [33]) hk ob 3000 loose w := by
  intro os
  kernel_rfl
theorem eS : ∃ (cs : Scope) (ps : List Pos), defBody (top 23) = srcBody cs (fun i => ps.getD i ⟨0, 0, 0, 0⟩) ∧ srcB (defScope (top 23)) cs = true := ⟨_, [_, _, _, _, _, _, _, _, _, _, _, _, _, _, _, _, _, _, _, _, _, _, _, _, _, _, _, _, _, _, _, _, _, _, _, _, _, _, _, _], rfl, by decide +kernel⟩
theorem eL : ∃ p0 p1 p2 p3 p4, defBody (top 33) = .Assign [.Name "source" p0] (.Call (.Name "_law_source" p1) [.Name "script" p2] [] p3) p4 :: (defBody (top 33)).tail := ⟨_, _, _, _, _, rfl⟩
theorem eR : ∃ (j j2 k1 k2 : Nat) (ps : List Pos), defBody (top 26) = raisedBody "call" "BadText" "error" "told" "wrong" "place" j j2 k1 k2 (fun i => ps.getD i ⟨0, 0, 0, 0⟩) := ⟨_, _, _, _, [⟨0, 0, 0, 0⟩, _, _, _, _, _, _, _, _, _, _, _, _, _], rfl⟩
theorem chk : okAll (ds.map (·.x)) (cnsOf cons) (xcsOf xcl) ds P = true := by decide +kernel
theorem chkL : chkSs N_law (ds.map (·.x)) (cnsOf cons) tds (xcsOf xcl) (defScope (top 33)) b_law (defBody (top 33)).tail = true := by decide +kernel
theorem law_at {w : World} {K : PySem.W.Frag} {mg : Str → Option Value} {h : Heap} {f : Addr} (KX : K.In h) (G0 : h.Ns mainGlobals mg) (hmg : mg "law" = some (.ref f)) (c : He.SaysX fa fn [] tf ex w h K)
    (plain : ∀ s : Src, ∃ o s', evS (Phi P (gOf cons) 4) (gOf cons) b_law (lawE N_law.length) s = .ok (.ret o (.bool true)) s') : LawG PySem.Challenge.rw_wiredlaws_k01_lexemes_names_and_labels w K (4 + 6) 63 "script" mg f h := by
  obtain ⟨cs, ps, e1, e2⟩ := eS
  obtain ⟨p0, p1, p2, p3, p4, e3⟩ := eL
  obtain ⟨j, j2, k1, k2, pr, e4⟩ := eR
  have cd := c.t.d
  have glo : ∀ x : Str, x ∈ globs → mg x = some (.ref (He.ga K x)) := fun x hx => He.glo_ok KX G0 (cd.facts (List.mem_append_left _ (List.mem_map.mpr ⟨x, hx, rfl⟩)))
  have def_ : ∀ d ∈ fn, ∃ fd, FunD K d.name d.qual d.params d.body d.scope (d.dvs K) (d.kws K) (He.fAd K d.at_) fd := fun d hd => cd.defs hd
  have ef : f = He.ga K "law" := by
    have := (glo "law" (by decide +kernel)).symm.trans hmg
    cases this
    rfl
  have more := c.more
  unfold ex at more
  simp only [Bool.and_eq_true, List.all_eq_true] at more
  obtain ⟨⟨m1, m2⟩, m3⟩ := more
  let td : Td := ⟨"_law_raised", top 26, 0, "call", "BadText", "error", "told", "wrong", "place", j, j2, k1, k2, fun i => pr.getD i ⟨0, 0, 0, 0⟩⟩
  have f1 : psOf (defArgs (top 26)) = [("call" : Str)] := by decide +kernel
  have f2 : plainA (defArgs (top 26)) = true := by decide +kernel
  have f3 : C8.scC ["call", "error"] ["call"] (defScope (top 26)) = true := by decide +kernel
  have f4 : (defScope (top 26)).names.lookup ("error" : Str) = some .local := by decide +kernel
  have f5 : (defScope (top 26)).names.lookup ("call" : Str) = some .local := by decide +kernel
  have f6 : (defScope (top 26)).names.lookup ("BadText" : Str) = some .globalImplicit := by decide +kernel
  have f7 : (("_law_raised" : Str) == ("__debug__" : Str)) = false := by decide +kernel
  have f8 : (("call" : Str) == ("__debug__" : Str)) = false := by decide +kernel
  have f9 : (("call" : Str) == ("__classdict__" : Str)) = false := by decide +kernel
  have f10 : (("error" : Str) == ("__debug__" : Str)) = false := by decide +kernel
  have f11 : (("error" : Str) == ("__classdict__" : Str)) = false := by decide +kernel
  have f12 : (("BadText" : Str) == ("__debug__" : Str)) = false := by decide +kernel
  have f13 : ("_law_raised" : Str) ∈ globs := by decide +kernel
  have hdef : ∀ d ∈ ds, mg d.x = some (.ref (He.ga K d.x)) ∧ ∃ fd, FunD K d.x d.x (defArgs d.st) (defBody d.st) (defScope d.st) [] [] (He.ga K d.x) fd := by
    intro d hd
    simp only [ds, List.mem_cons, List.not_mem_nil, or_false] at hd
    rcases hd with rfl | rfl | rfl | rfl | rfl | rfl | rfl | rfl | rfl | rfl | rfl | rfl | rfl | rfl | rfl | rfl | rfl
    · exact ⟨glo "run_behind" (by decide +kernel), def_ (dd "run_behind" 13) (by simp [fn])⟩
    · exact ⟨glo "lexeme_from" (by decide +kernel), def_ (dd "lexeme_from" 14) (by simp [fn])⟩
    · exact ⟨glo "lexemes" (by decide +kernel), def_ (dd "lexemes" 15) (by simp [fn])⟩
    · exact ⟨glo "is_name" (by decide +kernel), def_ (dd "is_name" 16) (by simp [fn])⟩
    · exact ⟨glo "is_between" (by decide +kernel), def_ (dd "is_between" 17) (by simp [fn])⟩
    · exact ⟨glo "is_label" (by decide +kernel), def_ (dd "is_label" 18) (by simp [fn])⟩
    · exact ⟨glo "is_beginning" (by decide +kernel), def_ (dd "is_beginning" 19) (by simp [fn])⟩
    · exact ⟨glo "label_text" (by decide +kernel), def_ (dd "label_text" 20) (by simp [fn])⟩
    · exact ⟨glo "beginning_text" (by decide +kernel), def_ (dd "beginning_text" 21) (by simp [fn])⟩
    · exact ⟨glo "_law_pick" (by decide +kernel), def_ (dd "_law_pick" 24) (by simp [fn])⟩
    · exact ⟨glo "_law_of" (by decide +kernel), def_ (dd "_law_of" 25) (by simp [fn])⟩
    · exact ⟨glo "_law_lexed" (by decide +kernel), def_ (dd "_law_lexed" 27) (by simp [fn])⟩
    · exact ⟨glo "_law_text" (by decide +kernel), def_ (dd "_law_text" 28) (by simp [fn])⟩
    · exact ⟨glo "_law_number" (by decide +kernel), def_ (dd "_law_number" 29) (by simp [fn])⟩
    · exact ⟨glo "_law_is_label" (by decide +kernel), def_ (dd "_law_is_label" 30) (by simp [fn])⟩
    · exact ⟨glo "_law_is_name" (by decide +kernel), def_ (dd "_law_is_name" 31) (by simp [fn])⟩
    · exact ⟨glo "_law_value" (by decide +kernel), def_ (dd "_law_value" 32) (by simp [fn])⟩
  have hsup : ∀ p ∈ xcl, supB K (PySem.Challenge.rw_wiredlaws_k01_lexemes_names_and_labels).prog.main.file p.1 p.2 = true ∧ mg p.1 = some (.ref (He.ga K p.1)) ∧ (p.1 == ("__debug__" : Str)) = false := by
    intro p hp
    refine ⟨m2 p hp, ?_⟩
    simp only [xcl, List.mem_cons, List.not_mem_nil, or_false] at hp
    rcases hp with rfl
    · exact ⟨glo "BadText" (by decide +kernel), by decide +kernel⟩
  refine lawG_of (l := PySem.Challenge.rw_wiredlaws_k01_lexemes_names_and_labels) (kP := 4) (P := P) (cons := cons) (xcl := xcl) (ds := ds) (tdl := [td]) (stS := top 23) (stL := top 33) (N := N_law) (bL := b_law) KX G0 hmg (by decide) (fun x hx => He.free_ok KX G0 (cd.facts (List.mem_append_right _ (List.mem_map.mpr ⟨x, hx, rfl⟩)))) m1 hdef chk hsup (by decide +kernel)
    (glo _ (by decide +kernel)) (def_ (dd "_law_source" 23) (by simp [fn])) e1 (by decide +kernel) (by decide +kernel) (by decide +kernel) e2
    (by rw [ef]; exact def_ (dd "law" 33) (by simp [fn])) e3 (by decide +kernel) (by decide +kernel) (by decide +kernel) (by decide +kernel) (by decide +kernel) (by first | exact .inl (by decide +kernel) | exact .inr (by decide +kernel)) (by decide +kernel) chkL
    (fun t ht => by obtain rfl := List.mem_singleton.mp ht; exact ⟨e4, f1, f2, f3, f4, f5, f6, rfl, f7, f8, f9, f10, f11, f12⟩) (fun t ht => by obtain rfl := List.mem_singleton.mp ht; exact ⟨glo _ f13, def_ (dd "_law_raised" 26) (by simp [fn]), m3⟩) tf (.inr rfl) ef c.hd c.out c.empty plain
end K01
open PySem PySem.W PySem.Calls PyProof.Rows
theorem K01_holds (plain : ∀ s : Tre.Src, ∃ o s', Tre.evS (Tre.Phi K01.P (Tre.gOf K01.cons) 4) (Tre.gOf K01.cons) K01.b_law (Tre.lawE K01.N_law.length) s = .ok (.ret o (.bool true)) s') : PySem.Challenge.rw_wiredlaws_k01_lexemes_names_and_labels.Holds := by
  w_on; o_law
  refine HandSHeadRun.head_any (r := OpenLaw.row PySem.Challenge.rw_wiredlaws_k01_lexemes_names_and_labels) (q := view (OpenLaw.row PySem.Challenge.rw_wiredlaws_k01_lexemes_names_and_labels).prog [33]) (H := K01.hk) (ob := K01.ob) (M := 3000) (loose := K01.loose) (d := HandSHeadRun.topDef (OpenLaw.row PySem.Challenge.rw_wiredlaws_k01_lexemes_names_and_labels).prog 33) (kwd := []) K01.ob_eq
    (by kernel_rfl) (fun s => by kernel_rfl) K01.run (by kernel_rfl) (by kernel_rfl) (by kernel_rfl) (by rfl) (by first | assumption | decide +kernel) (by decide +kernel) ⟨rfl, rfl, rfl, rfl, rfl, by decide +kernel⟩ ?hw ?hc
  case hw => w_witness2
  case hc =>
    refine Tre.walk_G (l := PySem.Challenge.rw_wiredlaws_k01_lexemes_names_and_labels) (n := 63) (k := 4 + 6) (x := "script") rfl (by decide) (by kernel_rfl) ⟨rfl, by decide, by decide⟩ ?F
    intro w mg fa h Y G hmg0
    obtain ⟨K, KX, c⟩ := Y
    have hmg : mg ("law" : PySem.Str) = some (.ref fa) := by
      have e : (HandSHeadRun.topDef (OpenLaw.row PySem.Challenge.rw_wiredlaws_k01_lexemes_names_and_labels).prog 33).name = ("law" : PySem.Str) := by kernel_rfl
      rw [← e]
      exact hmg0
    exact ⟨K, KX, K01.law_at KX G hmg c plain⟩
set_option maxHeartbeats 0
theorem PySem.Challenge.cw_wiredlaws_k01_lexemes_names_and_labels_holds : PySem.Challenge.rw_wiredlaws_k01_lexemes_names_and_labels.Holds := by
  exact K01_holds K01.plain
