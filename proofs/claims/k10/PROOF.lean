import PyProof.Rows.All
import Wide.All
import OpenK.AllK
import Wide.FinOn
import HandS.TupMul
import HandS.TupAny
import KE.GoesMore
import HandS.Iter
import PyProof.EnumMake
import HandS.ForMost
import HandS.Deep
import HandS.Walk
import HandS.Lambda
import HandS.Exc
import HandS.ExcField
import PyProof.StrBlock2
import HandS.RaiseMore
import HandS.IsInst
import HandS.Style
import HandS.ExcOwn
import HandS.Flow
import HandS.Zip
import HandS.Rev
import HandS.RevRange
import PyProof.Draws
import PyProof.Rows.EnumRows
import HandS.NoneIn
import HandS.Defaults
import HandS.ExcInit
import HandS.Nested
import KE.KExcSuper
import KE.KSuper
import HandS.Conv
import HandS.Head2
import HandS.HeadEnd
import HandS.HeadHook4
import HandS.HeadWalk
import HandS.Codes
import PySem.Challenge.RW_wiredlaws_k10_fractions
set_option Elab.async false
set_option linter.all false
set_option maxRecDepth 100000
/-! TreM: tuple * int of any number. -/
namespace Tre
open PySem PySem.Spec PyProof.Rows L2
open AutoSeq1 (wpAny_loadPart')

theorem mul_same (l : Addr) (items : Array Value) (n : Nat) (sl : Array (Option Value)) (x : Int) (u : Tok) (r0 : (decide (x < -(2 ^ 63)) || decide (x ≥ 2 ^ 63)) = false) (r1 : (items.isEmpty || x == 1) = true) (dd : Option Addr) :
    Meets (Builtin.«tuple.__mul__» ⟨[.ref l, .int x u], []⟩) (fun _ R s => s.heap.get? l = some { cls := .type "tuple", dict := dd, data := .seq items n, slots := sl } ∧ R (.ok (.ret (Value.ref l))) s) :=
  .of_wp fun prog w A R s h => by
    obtain ⟨hp, g, d, tk, os⟩ := s
    obtain ⟨hl, h⟩ := h
    have f1 := AutoSeq1.idx_int
    have hT : Shared.TypeIs ⟨hp, g, d, tk, os⟩ (.ref l) "tuple" := ⟨_, hl, rfl⟩
    wp_walk using wpAny_loadPart' hl, wpAny_typeOf hT
    repeat (first
      | (refine wpAny_ite_false (decide_eq_false (by rw [r0]; exact Bool.false_ne_true)) ?_; wp_walk using wpAny_loadPart' hl, wpAny_typeOf hT)
      | (refine wpAny_ite_true (decide_eq_true r1) ?_; wp_walk using wpAny_loadPart' hl, wpAny_typeOf hT))
    exact ⟨_, rfl, h⟩
theorem mul_none (l : Addr) (items : Array Value) (n : Nat) (sl : Array (Option Value)) (x : Int) (u : Tok) (r0 : (decide (x < -(2 ^ 63)) || decide (x ≥ 2 ^ 63)) = false) (r1 : (items.isEmpty || x == 1) = false) (r2 : (decide (x ≤ 0) || items.isEmpty) = true) (dd : Option Addr) :
    Meets (Builtin.«tuple.__mul__» ⟨[.ref l, .int x u], []⟩) (fun _ R s => s.heap.get? l = some { cls := .type "tuple", dict := dd, data := .seq items n, slots := sl } ∧
      R (.ok (.ret (Value.ref s.heap.objs.size))) { s with heap := s.heap.push { cls := Value.type "tuple", data := Data.seq #[] } }) :=
  .of_wp fun prog w A R s h => by
    obtain ⟨hp, g, d, tk, os⟩ := s
    obtain ⟨hl, h⟩ := h
    have f1 := AutoSeq1.idx_int
    wp_walk using wpAny_loadPart' hl
    repeat (first
      | (refine wpAny_ite_false (decide_eq_false (by rw [r0]; exact Bool.false_ne_true)) ?_; wp_walk using wpAny_loadPart' hl)
      | (refine wpAny_ite_false (decide_eq_false (by rw [r1]; exact Bool.false_ne_true)) ?_; wp_walk using wpAny_loadPart' hl)
      | (refine wpAny_ite_true (decide_eq_true r2) ?_; wp_walk using wpAny_loadPart' hl))
    exact ⟨_, rfl, h⟩
/-- a tuple, many times -/
def rRepA (K : PySem.W.Frag) : R2 := fun x y H Q => ∃ l k xs, x = .ref l ∧ y = .int k ∧ SqT K H l xs ∧ -(2 ^ 63) ≤ k ∧ k ≤ 1000 ∧ xs.length ≤ 1000 ∧ ((k = 1 ∨ xs = []) → Q (.ref l) H) ∧
  (k ≠ 1 → xs ≠ [] → ∀ p, H p = none → Q (.ref p) (upd H p (.tup (List.replicate k.toNat xs).flatten)))
theorem op_repA {X : Cx} : OpR X (binaryOp .Mult) (rRepA X.K) := by
  intro pins s σ H x y v u Q I rx ry h
  obtain ⟨l, k, xs, rfl, rfl, hT, h0, h1, hz, qs, qn⟩ := h
  by_cases h2 : 2 ≤ k ∧ xs ≠ []
  · exact op_repT pins s σ H _ _ v u Q I rx ry ⟨l, k, xs, rfl, rfl, hT, h2.2, h2.1, h1, hz, qn (by omega) h2.2⟩
  cases rx
  obtain ⟨t, rfl⟩ := ry
  obtain ⟨its, r, ⟨⟨cls, dd, data, sl⟩, ho, hc, n, hd⟩, hs⟩ := I.tuple hT
  simp only at hc hd
  subst hc hd
  have hle : its.length = xs.length := r.length.symm
  have c0 : (decide (k < -(2 ^ 63)) || decide (k ≥ 2 ^ 63)) = false := by
    rw [decide_eq_false (by omega), decide_eq_false (by omega)] <;> rfl
  by_cases hs1 : k = 1 ∨ xs = []
  · have c1 : (its.toArray.isEmpty || k == 1) = true := by
      rcases hs1 with e | e
      · rw [e]; simp
      · rw [e] at hle
        have : its = [] := List.eq_nil_of_length_eq_zero hle
        rw [this]; rfl
    exact wpAny_binaryOp_repeat_ref (T := "tuple") (U := "int") (by decide) ⟨_, ho, rfl⟩ (fun s' => typeIs_int s' k t) noFill_tuple_mul F.fills_int_mul F.slot_int_rmul repeat_tuple F.slot_int_index.lookup
      (call_meets F.slot_int_rmul (typeIs_int s k t) F.entry_int_rmul (F.args_int_rmul_2 _ _) (int_rmul_tuple k t l its.toArray n dd sl)
        ⟨ho, rfl, ⟨_, ho, rfl⟩, call_meets F.slot_tuple_mul ⟨_, ho, rfl⟩ F.entry_tuple_mul (F.args_tuple_mul_2 _ _) (mul_same l its.toArray n sl k t c0 c1 dd) ⟨ho, .ref l, H, I, rfl, qs hs1⟩⟩)
  · have hn : xs ≠ [] := fun e => hs1 (.inr e)
    have hk1 : k ≠ 1 := fun e => hs1 (.inl e)
    have hk : k ≤ 0 := by
      by_cases h3 : 2 ≤ k
      · exact absurd ⟨h3, hn⟩ h2
      · omega
    have hi : its.toArray.isEmpty = false := by
      cases its with
      | nil => exact absurd (List.eq_nil_of_length_eq_zero (by simpa using hle.symm)) hn
      | cons a b => rfl
    have c1 : (its.toArray.isEmpty || k == 1) = false := by
      rw [hi, Bool.false_or]
      exact beq_eq_false_iff_ne.mpr hk1
    have c2 : (decide (k ≤ 0) || its.toArray.isEmpty) = true := by rw [decide_eq_true hk]; rfl
    have e0 : (List.replicate k.toNat xs).flatten = [] := by
      rw [show k.toNat = 0 by omega]; rfl
    refine wpAny_binaryOp_repeat_ref (T := "tuple") (U := "int") (by decide) ⟨_, ho, rfl⟩ (fun s' => typeIs_int s' k t) noFill_tuple_mul F.fills_int_mul F.slot_int_rmul repeat_tuple F.slot_int_index.lookup
      (call_meets F.slot_int_rmul (typeIs_int s k t) F.entry_int_rmul (F.args_int_rmul_2 _ _) (int_rmul_tuple k t l its.toArray n dd sl)
        ⟨ho, rfl, ⟨_, ho, rfl⟩, call_meets F.slot_tuple_mul ⟨_, ho, rfl⟩ F.entry_tuple_mul (F.args_tuple_mul_2 _ _) (mul_none l its.toArray n sl k t c0 c1 c2 dd) ⟨ho, ?_⟩⟩)
    have hq := qn hk1 hn s.heap.objs.size (I.hok.fresh (Nat.le_refl _))
    rw [e0] at hq
    refine ⟨.ref s.heap.objs.size, _, I.laid (t' := s.toks) (o := .tup []) (fun b ob q => Heap.get?_push_of_some _ q) (Nat.le_refl _) ?_, rfl, hq⟩
    exact ⟨by show 0 ≤ sizeLine; omega, [], .nil, IsTup.new _ _⟩
end Tre
/-! TreN: enumerate of a tuple. -/
namespace Tre
open PySem PySem.Spec PyProof.Rows L2
open AutoSeq1 (wpAny_loadPart')

theorem meets_enumerate_newT (l : Addr) (items : Array Value) (n : Nat) (dct : Option Addr) (sl : Array (Option Value)) :
    Meets (Builtin.«enumerate.__new__» ⟨[.type "enumerate", .ref l], []⟩) (fun _ R s => s.heap.get? l = some { cls := .type "tuple", dict := dct, data := .seq items n, slots := sl } ∧
      R (.ok (.ret (.ref (s.heap.push { cls := .type "tuple_iterator", data := .fields #[.ref l, .int 0 0] }).objs.size)))
        { s with heap := (s.heap.push { cls := .type "tuple_iterator", data := .fields #[.ref l, .int 0 0] }).push { cls := .type "enumerate", data := .fields #[.none, .bool false, .ref s.heap.objs.size, rawInt 0, .none, .none] } }) :=
  .of_wp fun prog w A R s h => by
    obtain ⟨hp, g, d, tk, os⟩ := s; obtain ⟨hl, h⟩ := h
    have hsub := sub_enumerate
    have hL : Heap.IsTuple (Shared.heap ⟨hp, g, d, tk, os⟩) l items := ⟨_, hl, rfl, n, rfl⟩
    wp_walk using wpAny_loadPart' hl
    refine wpAny_stack_any fun st => wpAny_pure ?_
    split
    · rename_i c _ _ _ _ _
      cases (c == Value.type "enumerate")
      · wp_walk using wpAny_loadPart' hl, wpAny_pyIter_tuple hL
        exact ⟨_, rfl, h⟩
      · wp_walk using wpAny_loadPart' hl, wpAny_pyIter_tuple hL
        exact ⟨_, rfl, h⟩
    · wp_walk using wpAny_loadPart' hl, wpAny_pyIter_tuple hL
      exact ⟨_, rfl, h⟩
section
variable {prog : Program} {w : World} {A : Around} {E : Value → Shared → Prop} {s : Shared}
theorem call_enumerate_tup {l : Addr} {items : Array Value} {Q : Value → Shared → Prop} (hL : s.heap.IsTuple l items)
    (h : ∀ h', IsEnum h' (s.heap.objs.size + 1) s.heap.objs.size 0 .none → h'.IsTupleIter s.heap.objs.size l 0 → h'.objs.size = s.heap.objs.size + 2 →
      (∀ b o, s.heap.get? b = some o → h'.get? b = some o) → Q (.ref (s.heap.objs.size + 1)) { s with heap := h' }) :
    wpAny (model prog w) A (call (.type "enumerate") [.ref l]) Q E s := by
  obtain ⟨⟨c, dct, dt, sl⟩, hl, hc, n, hd⟩ := hL
  replace hc : c = .type "tuple" := hc
  replace hd : dt = .seq items n := hd
  subst hc hd
  refine callType_new F.called_enumerate (by decide) (F.typeCall_enumerate_1 _) (F.newCall_enumerate_1 _) (fun obj => F.args_object_init_2 obj _) F.entry_enumerate_new
    (meets_enumerate_newT l items n dct sl) ⟨hl, ?_⟩
  have hz : (s.heap.push { cls := .type "tuple_iterator", data := .fields #[.ref l, .int 0 0] }).objs.size = s.heap.objs.size + 1 := Heap.size_push ..
  show _ ∧ _
  rw [hz]
  have he : IsEnum ((s.heap.push { cls := .type "tuple_iterator", data := .fields #[.ref l, .int 0 0] }).push
      { cls := .type "enumerate", data := .fields #[.none, .bool false, .ref s.heap.objs.size, rawInt 0, .none, .none] }) (s.heap.objs.size + 1) s.heap.objs.size 0 .none := by
    have := Heap.get?_push_size (s.heap.push { cls := .type "tuple_iterator", data := .fields #[.ref l, .int 0 0] })
      (o := { cls := .type "enumerate", data := .fields #[.none, .bool false, .ref s.heap.objs.size, rawInt 0, .none, .none] }) rfl
    rw [hz] at this; exact this
  refine ⟨⟨_, he, rfl⟩, h _ he ⟨_, Heap.get?_push_of_some _ (Heap.get?_push_size _ rfl), rfl, rfl⟩ (by rw [Heap.size_push, hz]) fun b o x => Heap.get?_push_of_some _ (Heap.get?_push_of_some _ x)⟩
end
/-- the tuple at a, each item in a new pair -/
def IteT (K : PySem.W.Frag) (a : Addr) (n : Nat) : It :=
  ⟨fun i H => ∃ (xs : List V) (x : V), SqT K H a xs ∧ xs[i]? = some x ∧ xs.length = n, fun i H v H' => ∃ T x, v = .ref T ∧ H T = none ∧ H' = upd H T (.tup [.int (i : Nat), x]) ∧ ∀ xs, SqT K H a xs → xs[i]? = some x, fun i H => ∃ xs : List V, SqT K H a xs ∧ xs.length = n ∧ n ≤ i⟩
theorem turn_enumT {P : Program} {w : World} {K : PySem.W.Frag} {elts : List Expr} {kk : Nat} {tpos : Pos} (a e it : Addr) (n : Nat) :
    Turn P w K (.Tuple elts kk tpos) (IteT K a n) [e, it] e (fun i h => (∃ old, IsEnum h e it ((i : Nat) : Int) old) ∧ h.IsTupleIter it a i ∧ e ≠ it ∧ e ≠ a ∧ a ≠ it ∧ i ≤ n) where
  mem := by simp
  obj := fun i h st b hb => by
    obtain ⟨⟨old, he⟩, ⟨o, ho, hc, hd⟩, _⟩ := st
    have e' : b = e ∨ b = it := by simpa using hb
    rcases e' with z | z
    · rw [z]; exact ⟨_, he, fun v q => nomatch q⟩
    · rw [z]; exact ⟨o, ho, fun v q => by rw [hd] at q; cases q⟩
  keep := fun i h h' st k => let ⟨⟨old, he⟩, hi, hne⟩ := st; ⟨⟨old, k e (by simp) _ he⟩, hi.at fun o q => k it (by simp) o q, hne⟩
  item := by
    intro X hP hw hK hc i pins s σ H E I hf st hg
    subst hP hw hK
    obtain ⟨⟨old, he⟩, hit, hne, hea, hai, hin⟩ := st
    obtain ⟨xs, x, hq, hx, hn⟩ := hg
    obtain ⟨its, rv, p, hz⟩ := I.tuple hq
    obtain ⟨u, hu, ru⟩ := rv.get hx
    have hel : e < s.heap.objs.size := Heap.lt_size he
    have hil : it < s.heap.objs.size := by obtain ⟨_, q, _⟩ := hit; exact Heap.lt_size q
    have D : Draws X.prog X.w X.A.in1 it [it, a] its.toArray.size (fun i v => its.toArray[i]? = some v) (fun i h => h.IsTupleIter it a i ∧ h.IsTuple a its.toArray) := Draws.tuple (A := X.A.in1) (I.ok.hd hc) it a hai its.toArray
    have hlt : i < its.toArray.size := by
      have := (List.getElem?_eq_some_iff.mp hu).1
      simpa using this
    refine wpAny_pyNext_enum_itemD D he ⟨hit, p⟩ hlt hne (by simp [hne, hea]) fun v h' tk hv ho hit' hT' hsz hk => ?_
    have ev : v = u := by
      have : its[i]? = some v := by simpa using hv
      rw [hu] at this; cases this; rfl
    subst ev
    refine ⟨_, rfl, wpAny_letOwnedTupleGo_enum (s := { s with heap := h', toks := tk + 1 }) ho fun h'' he' sb => ?_⟩
    have hT2 : h''.get? s.heap.objs.size = some { cls := .type "tuple", data := .seq #[.int i tk, v] } := (sb.2 _ (Nat.ne_of_gt hel)).trans hT'
    have new : ObjOk X.prog X.w (upd H s.heap.objs.size (.tup [.int (i : Nat), x])) h'' s.heap.objs.size (.tup [.int (i : Nat), x]) :=
      ⟨by show 2 ≤ sizeLine; decide, [.int i tk, v], .cons ⟨_, rfl⟩ (.cons ru .nil), ⟨_, hT2, rfl, _, rfl⟩⟩
    have I1 : Inv X pins σ (upd H s.heap.objs.size (.tup [.int (i : Nat), x])) { s with heap := h'', toks := tk + 1 } :=
      I.turnedNew (ch := [e, it]) (fun b ob hb q => (sb.2 b (fun z => hb (by simp [z]))).trans (hk b ob (fun z => hb (by simp [z])) (fun z => hb (by simp [z])) q)) hf (Nat.le_refl _) new
    refine ⟨.ref s.heap.objs.size, _, I1, rfl, ⟨_, x, rfl, I.hok.fresh (Nat.le_refl _), rfl, fun ys hy => by rw [I.tuple_inj hy hq]; exact hx⟩, ⟨⟨v, ?_⟩, hit'.1.at fun o q => (sb.2 it (Ne.symm hne)).trans q, hne, hea, hai, ?_⟩, fun b hb => ?_⟩
    · have e1 : ((i + 1 : Nat) : Int) = (i : Int) + 1 := by omega
      rw [e1]; exact he'
    · have hl := rv.length
      have : its.toArray.size = its.length := by simp
      omega
    · have hb' : b < s.heap.objs.size := by
        have e' : b = e ∨ b = it := by simpa using hb
        rcases e' with z | z
        · rw [z]; exact hel
        · rw [z]; exact hil
      rw [upd_ne (Nat.ne_of_lt hb')]
      exact (hf b hb).1
  done := by
    intro X hP hw hK hc i pins s σ H E I hf st hg
    subst hP hw hK
    obtain ⟨⟨old, he⟩, hit, hne, hea, hai, hin⟩ := st
    obtain ⟨xs, hq, hn, hx⟩ := hg
    obtain ⟨its, rv, p, hz⟩ := I.tuple hq
    obtain ⟨f0, f1, f2, f3, f4, f5⟩ := hf it (by simp)
    have hl := rv.length
    have hz2 : its.toArray.size = its.length := by simp
    have hi : i = its.toArray.size := by omega
    subst hi
    have D : Draws X.prog X.w X.A.in1 it [it, a] its.toArray.size (fun i v => its.toArray[i]? = some v) (fun i h => h.IsTupleIter it a i ∧ h.IsTuple a its.toArray) := Draws.tuple (A := X.A.in1) (I.ok.hd hc) it a hai its.toArray
    exact wpAny_pyNext_enum_endD D he ⟨hit, p⟩ fun h' eb => ⟨rfl, I.turned (t' := s.toks) (fun b o hb q => eb b o hb q) f0 f1 f3 f4 f5⟩
  self := fun A i s Q E st h => let ⟨⟨_, he⟩, _⟩ := st; wpAny_pyIter_enum he h
end Tre
/-! Tre1: a small language of trees and its evaluator. Plain Lean; nothing of the model's machine. -/
namespace Tre
open PySem PySem.Spec PyProof.Rows L2

abbrev D := PyData

/-- the law's drawn numbers, as they stand -/
structure Src where
  cells : List Int
  left : Int
  mixed : Int
  turn : Int

def Src.get (s : Src) : Nat → Int
  | 0 => s.left
  | 1 => s.mixed
  | _ => s.turn
def Src.put (s : Src) : Nat → Int → Src
  | 0, n => { s with left := n }
  | 1, n => { s with mixed := n }
  | _, n => { s with turn := n }

inductive R (α : Type) where
  | ok (a : α) (s : Src)
  | exc (c : Nat) (a : List D) (s : Src)
  | stuck

def R.bind {α β : Type} (r : R α) (f : α → Src → R β) : R β := match r with
  | .ok a s => f a s
  | .exc c a s => .exc c a s
  | .stuck => .stuck
@[simp] theorem R.bind_ok {α β : Type} (a : α) (s : Src) (f : α → Src → R β) : (R.ok a s).bind f = f a s := rfl
@[simp] theorem R.bind_exc {α β : Type} (c : Nat) (a : List D) (s : Src) (f : α → Src → R β) : (R.exc c a s : R α).bind f = .exc c a s := rfl
@[simp] theorem R.bind_stuck {α β : Type} (f : α → Src → R β) : (R.stuck : R α).bind f = .stuck := rfl
def R.of {α : Type} (o : Option α) (s : Src) : R α := match o with
  | some a => .ok a s
  | none => .stuck
@[simp] theorem R.of_some {α : Type} (a : α) (s : Src) : R.of (some a) s = .ok a s := rfl
@[simp] theorem R.of_none {α : Type} (s : Src) : (R.of none s : R α) = .stuck := rfl

/-- how a value may be held: frozen, owned by nobody yet (new), looked at in an owner's slot -/
inductive Kd where
  | frz | own | peek
  deriving DecidableEq

inductive Slot where
  | e
  | d (own : Bool) (x : D)
  | src
abbrev Env := List Slot
inductive Arg where
  | d (x : D)
  | src

inductive BI where
  | len | abs | max | min | int | str | repr | sum | all | any | list | tuple | sorted
  deriving DecidableEq
inductive MI where
  | join | split | index
  deriving DecidableEq

inductive T where
  -- expressions
  | c (d : D)
  | v (i : Nat)
  | g (i : Nat)
  | op (o : Operator) (a b : T)
  | cmp (o : CmpOp) (a b : T)
  | cmp2 (o o' : CmpOp) (a b c : T)
  | and (a b : T)
  | or (a b : T)
  | not (a : T)
  | neg (a : T)
  | ife (c a b : T)
  | tup (es : T)
  | lst (es : T)
  | dnew
  | sub (a i : T)
  | sl (a lo hi : T)
  | rev (a : T)
  | call (f : Nat) (es : T)
  | bi (b : BI) (es : T)
  | isi (t : String) (a : T)
  | me (m : MI) (o es : T)
  | lc (tg it cond elt : T) (ws : List Nat)
  | told (f c : Nat) (okS badS : Str) (es : T)
  | tried (f c : Nat) (txt : Str) (es : T)
  | srcG (k i : Nat)
  | srcL (i : Nat)
  -- rows of expressions, parts of slices
  | nil
  | cons (a r : T)
  | star (a r : T)
  | csrc (i : Nat) (r : T)
  -- what is walked
  | it (a : T)
  | rng (es : T)
  | enu (a : T)
  | zip (strict : Bool) (a b : T)
  | rvd (a : T)
  | rvr (es : T)
  -- targets
  | ov (i : Nat)
  -- statements
  | seq (a r : T)
  | fz (is : List Nat) (r : T)
  | kl (is : List Nat) (r : T)
  | pass
  | asg (tg e : T)
  | par (tgs es : T)
  | setx (i : Nat) (ix e : T)
  | aug (i : Nat) (o : Operator) (e : T)
  | augx (i : Nat) (ix : T) (o : Operator) (e : T)
  | app (i : Nat) (e : T)
  | ext (i : Nat) (e : T)
  | popS (i : Nat)
  | ex (e : T)
  | ifs (c a b : T)
  | wh (fzs : List Nat) (c b : T)
  | for (tg it b : T)
  | ret (e : T)
  | retv (i : Nat)
  | retn
  | brk
  | cnt
  | raise (c ar : Nat) (es : T)
  | srcS (k i : Nat) (e : T)
  | srcP (i : Nat)

inductive Fl where
  | next (env : Env)
  | ret (own : Bool) (d : D)
  | brk (env : Env)
  | cnt (env : Env)

/-! ### operators -/
def cmulB (i j : Int) : Bool := (decide (-(2 ^ 64) < i) && decide (i < 2 ^ 64)) || (decide (-(2 ^ 64) < j) && decide (j < 2 ^ 64))
def opF (o : Operator) (x y : D) : Option (Kd × D) := match o, x, y with
  | .Add, .int i, .int j => some (.frz, .int (i + j))
  | .Add, .str a, .str b => if a.length + b.length ≤ sizeLine then some (.frz, .str (a ++ b)) else none
  | .Add, .list xs, .list ys => if xs.length + ys.length ≤ sizeLine then some (.own, .list (xs ++ ys)) else none
  | .Add, .tuple xs, .tuple ys => if xs.length + ys.length ≤ sizeLine then some (.frz, .tuple (xs ++ ys)) else none
  | .Sub, .int i, .int j => some (.frz, .int (i - j))
  | .Mult, .int i, .int j => if cmulB i j then some (.frz, .int (i * j)) else none
  | .Mult, .list xs, .int k => if -(2 ^ 63) ≤ k ∧ k < 2 ^ 63 ∧ xs.length * k.toNat ≤ sizeLine then some (.own, .list (List.replicate k.toNat xs).flatten) else none
  | .Mult, .tuple xs, .int k => if -(2 ^ 63) ≤ k ∧ k ≤ 1000 ∧ xs.length ≤ 1000 then some (.frz, .tuple (List.replicate k.toNat xs).flatten) else none
  | .Mult, .str x, .int k => if 2 ≤ k ∧ k ≤ 1000 ∧ x.length ≤ 1000 ∧ 0 < x.length then some (.frz, .str (Txt.mul x k)) else none
  | .FloorDiv, .int i, .int j => if 0 < j ∧ j < 1073741824 then some (.frz, .int (i / j)) else none
  | .Mod, .int i, .int j => if 0 < j then some (.frz, .int (i % j)) else none
  | .Pow, .int i, .int j => if 0 ≤ j ∧ j ≤ 1000000 ∧ i.natAbs < 2 ^ 64 then some (.frz, .int (i ^ j.toNat)) else none
  | _, _, _ => none

/-- in place, of numbers and texts -/
def opI (o : Operator) (x y : D) : Option D := match o, x, y with
  | .Add, .int i, .int j => some (.int (i + j))
  | .Add, .str a, .str b => if a.length + b.length ≤ sizeLine then some (.str (a ++ b)) else none
  | .Sub, .int i, .int j => some (.int (i - j))
  | .Mult, .int i, .int j => if cmulB i j then some (.int (i * j)) else none
  | .FloorDiv, .int i, .int j => if 0 < j ∧ j < 1073741824 then some (.int (i / j)) else none
  | .Mod, .int i, .int j => if 0 < j then some (.int (i % j)) else none
  | _, _, _ => none
def eqF (x y : D) : Option Bool := if Nat.min x.depth y.depth ≤ 64 then some (PyData.eqv x y) else none
def inF (x y : D) : Option Bool := match y with
  | .list ds => if Nat.min (PyData.depthAll ds) x.depth ≤ 64 then some (ds.any fun z => PyData.eqv z x) else none
  | .tuple ds => if Nat.min (PyData.depthAll ds) x.depth ≤ 64 then some (ds.any fun z => PyData.eqv z x) else none
  | .str z => (match x with
    | .str a => some (!(Builtin.Str.occurrences z a 0 z.length 1).isEmpty)
    | _ => none)
  | _ => none
def isNoneD : D → Bool
  | .none => true
  | _ => false
def i2F (p : Int → Int → Bool) (x y : D) : Option Bool := match x, y with
  | .int i, .int j => some (p i j)
  | _, _ => none
def isF (x y : D) : Option Bool := match y with
  | .none => some (isNoneD x)
  | _ => none
def cmpF (o : CmpOp) (x y : D) : Option Bool := match o with
  | .Eq => eqF x y
  | .NotEq => (eqF x y).map (!·)
  | .Lt => i2F (fun i j => decide (i < j)) x y
  | .LtE => i2F (fun i j => decide (i ≤ j)) x y
  | .Gt => i2F (fun i j => decide (j < i)) x y
  | .GtE => i2F (fun i j => decide (j ≤ i)) x y
  | .In => inF x y
  | .NotIn => (inF x y).map (!·)
  | .Is => isF x y
  | .IsNot => (isF x y).map (!·)

def truth : D → Bool
  | .none => false
  | .bool b => b
  | .int i => i != 0
  | .str x => (x.length : Int) != 0
  | .list xs => !xs.isEmpty
  | .tuple xs => !xs.isEmpty
  | .dict kvs => !kvs.isEmpty

def subF (x i : D) : Option D := match x, i with
  | .list xs, .int k => atI xs k
  | .tuple xs, .int k => atI xs k
  | .str z, .int k => (atI z.cps.toList k).map fun c => .str ⟨#[c]⟩
  | _, _ => none
def cutD (xs : List D) (lo hi : Option Int) : List D := (xs.drop (HT.sIx xs.length 0 lo)).take (HT.sIx xs.length xs.length hi - HT.sIx xs.length 0 lo)
def slF (x : D) (lo hi : Option Int) : Option (Kd × D) := match x with
  | .list xs => some (.own, .list (cutD xs lo hi))
  | .tuple xs => some (.frz, .tuple (cutD xs lo hi))
  | .str z => some (.frz, .str (cutS z lo hi))
  | _ => none
def revF (x : D) : Option (Kd × D) := match x with
  | .list xs => some (.own, .list xs.reverse)
  | _ => none

/-! ### built-ins -/
def intsOf : List D → Option (List Int)
  | [] => some []
  | .int i :: r => (intsOf r).map (i :: ·)
  | _ :: _ => none
def boolsOf : List D → Option (List Bool)
  | [] => some []
  | .bool b :: r => (boolsOf r).map (b :: ·)
  | _ :: _ => none
def strsOf : List D → Option (List Str)
  | [] => some []
  | .str b :: r => (strsOf r).map (b :: ·)
  | _ :: _ => none
def itemsOf : D → Option (List D)
  | .list xs => some xs
  | .tuple xs => some xs
  | _ => none
def maxL : Int → List Int → Int
  | m, [] => m
  | m, x :: r => maxL (if x > m then x else m) r
def minL : Int → List Int → Int
  | m, [] => m
  | m, x :: r => minL (if x < m then x else m) r
def biF (b : BI) (xs : List D) : Option (Kd × D) := match b, xs with
  | .len, [.list ys] => some (.frz, .int ys.length)
  | .len, [.tuple ys] => some (.frz, .int ys.length)
  | .len, [.str z] => some (.frz, .int z.length)
  | .abs, [.int i] => some (.frz, .int (if i < 0 then -i else i))
  | .max, [.int i, .int j] => some (.frz, .int (if j > i then j else i))
  | .min, [.int i, .int j] => some (.frz, .int (if j < i then j else i))
  | .max, [.list ys] => (match intsOf ys with
    | some (m :: r) => some (.frz, .int (maxL m r))
    | _ => none)
  | .min, [.list ys] => (match intsOf ys with
    | some (m :: r) => some (.frz, .int (minL m r))
    | _ => none)
  | .int, [.int i] => some (.frz, .int i)
  | .int, [.bool k] => some (.frz, .int (if k then 1 else 0))
  | .sum, [.list ys] => (intsOf ys).map fun ns => (.frz, .int ns.sum)
  | .all, [.list ys] => (boolsOf ys).map fun bs => (.frz, .bool (bs.all id))
  | .any, [.list ys] => (boolsOf ys).map fun bs => (.frz, .bool (bs.any id))
  | .list, [y] => (itemsOf y).map fun zs => (.own, .list zs)
  | .tuple, [y] => (itemsOf y).map fun zs => (.frz, .tuple zs)
  | .repr, [y] => if y.showable = true ∧ y.depth ≤ 64 ∧ y.hasDict = false ∧ y.shown.length ≤ sizeLine then some (.frz, .str y.shown) else none
  | .str, [.int i] => if i.natAbs.log2 < 1920 then some (.frz, .str (toString i)) else none
  | _, _ => none
def isiF (t : String) (x : D) : Bool := match x with
  | .none => false
  | .bool _ => t == "bool" || t == "int"
  | .int _ => t == "int"
  | .str _ => t == "str"
  | .list _ => t == "list"
  | .tuple _ => t == "tuple"
  | .dict _ => t == "dict"
def isStrD : D → Bool
  | .str _ => true
  | _ => false
def meF (m : MI) (o : D) (xs : List D) : Option (Kd × D) := match m, o, xs with
  | .join, .str sep, [y] => (match (itemsOf y).bind strsOf with
    | some ss => if (ss.map (·.length)).sum + ss.length * sep.length ≤ 16777216 then some (.frz, .str (Txt.join sep ss)) else none
    | none => none)
  | .split, .str a, [.str b] => if 0 < b.length ∧ a.length + 2 ≤ sizeLine ∧ (Txt.split a b).all (fun z => decide (z.length ≤ sizeLine) && PyData.strOk z) = true ∧ (Txt.split a b).length ≤ sizeLine then some (.own, .list ((Txt.split a b).map .str)) else none
  | _, _, _ => none

/-! ### stores -/
def putE (env : Env) (i : Nat) (s : Slot) : Option Env := if i < env.length then some (env.set i s) else none
/-- a target takes a value; a new list is the slot's own where the target says so -/
def bindT : T → Kd × D → Env → Option Env
  | .v i, (k, d), env => if k = .peek then none else putE env i (.d false d)
  | .ov i, (k, d), env => if k = .peek then none else putE env i (.d (decide (k = .own)) d)
  | .tup ts, (_, .tuple xs), env => bindT ts (.frz, .tuple xs) env
  | .tup ts, (_, .list xs), env => bindT ts (.frz, .tuple xs) env
  | .nil, (_, .tuple []), env => some env
  | .cons t r, (_, .tuple (x :: xs)), env => (bindT t (.frz, x) env).bind fun env' => bindT r (.frz, .tuple xs) env'
  | _, _, _ => none
def bindP : T → List (Kd × D) → Env → Option Env
  | .nil, [], env => some env
  | .cons t r, x :: xs, env => (bindT t x env).bind fun env' => bindP r xs env'
  | _, _, _ => none
def fzE (env : Env) : List Nat → Env
  | [] => env
  | i :: is => (match (fzE env is)[i]? with
    | some (.d _ x) => (fzE env is).set i (.d false x)
    | _ => fzE env is)
def klE (env : Env) : List Nat → Env
  | [] => env
  | i :: is => (klE env is).set i .e
/-- the owned list in a slot -/
def ownL (env : Env) (i : Nat) : Option (List D) := match env[i]? with
  | some (.d true (.list xs)) => some xs
  | _ => none

/-- all of them plain -/
def scalOf : List D → Option (List D)
  | [] => some []
  | .none :: r => (scalOf r).map (.none :: ·)
  | .bool b :: r => (scalOf r).map (.bool b :: ·)
  | .int i :: r => (scalOf r).map (.int i :: ·)
  | .str x :: r => (scalOf r).map (.str x :: ·)
  | _ => none
def noPeek : List (Kd × D) → Option (List D)
  | [] => some []
  | (k, d) :: r => if k = .peek then none else (noPeek r).map (d :: ·)
def intPart (x : D) : Option (Option Int) := match x with
  | .int i => some (some i)
  | _ => none

/-! ### walks -/
def forL (f : D → Env → Src → R Fl) : List D → Env → Src → R Fl
  | [], env, s => .ok (.next env) s
  | x :: xs, env, s => (f x env s).bind fun fl s1 => match fl with
    | .next env' => forL f xs env' s1
    | .cnt env' => forL f xs env' s1
    | .brk env' => .ok (.next env') s1
    | .ret o d => .ok (.ret o d) s1
def compL (f : D → Src → R (Option D)) : List D → Src → R (List D)
  | [], s => .ok [] s
  | x :: xs, s => (f x s).bind fun o s1 => (compL f xs s1).bind fun r s2 => match o with
    | some y => .ok (y :: r) s2
    | none => .ok r s2
/-- within a comprehension nothing is raised -/
def R.calm {α : Type} (r : R α) : R α := match r with
  | .ok a s => .ok a s
  | _ => .stuck
def whN (c : Env → Src → R D) (b : Env → Src → R Fl) (z : List Nat) : Nat → Env → Src → Option (R Fl)
  | 0, _, _ => none
  | n + 1, env, s => match c (fzE env z) s with
    | .ok d s1 => if truth d then (match b (fzE env z) s1 with
        | .ok (.next env') s2 => whN c b z n env' s2
        | .ok (.cnt env') s2 => whN c b z n env' s2
        | .ok (.brk env') s2 => some (.ok (.next env') s2)
        | .ok (.ret o d) s2 => some (.ok (.ret o d) s2)
        | .exc k a s2 => some (.exc k a s2)
        | .stuck => some .stuck)
      else some (.ok (.next (fzE env z)) s1)
    | .exc k a s1 => some (.exc k a s1)
    | .stuck => some .stuck
open Classical in
noncomputable def whR (c : Env → Src → R D) (b : Env → Src → R Fl) (z : List Nat) (env : Env) (s : Src) : R Fl :=
  if h : ∃ r n, whN c b z n env s = some r then h.choose else .stuck

def rngD (lo : Int) (n : Nat) : List D := (List.range n).map fun i => .int (lo + (i : Nat))
def rngCD (lo c : Int) (n : Nat) : List D := (List.range n).map fun i => .int (lo + (i : Nat) * c)
def enuD : Nat → List D → List D
  | _, [] => []
  | i, x :: r => .tuple [.int (i : Nat), x] :: enuD (i + 1) r
def zipD : List D → List D → List D
  | x :: xs, y :: ys => .tuple [x, y] :: zipD xs ys
  | _, _ => []
def signsD (z : Str) : List D := z.cps.toList.map fun c => .str ⟨#[c]⟩
def okR (i : Int) : Bool := decide (-(2 ^ 62) ≤ i) && decide (i < 2 ^ 62)
def rngF (xs : List D) : Option (List D) := match xs with
  | [.int j] => if okR j then some (rngD 0 j.toNat) else none
  | [.int i, .int j] => if okR i && okR j then some (rngD i (j - i).toNat) else none
  | _ => none
def rvrF (xs : List D) : Option (List D) := match xs with
  | [.int j] => if okR j then some (rngCD (((j.toNat : Nat) : Int) - 1) (-1) j.toNat) else none
  | [.int i, .int j] => if okR i && okR j then some (rngCD (i + (((j - i).toNat : Nat) : Int) - 1) (-1) (j - i).toNat) else none
  | _ => none
def itF (x : D) : Option (List D) := match x with
  | .list xs => some xs
  | .tuple xs => some xs
  | .str z => some (signsD z)
  | _ => none

/-- what enumerate serves -/
def enF (x : D) : Option (List D) := match x with
  | .list xs => some (enuD 0 xs)
  | .tuple xs => some (enuD 0 xs)
  | .str z => some (enuD 0 (signsD z))
  | _ => none

section
variable (Φ : Nat → List Arg → Src → R (Bool × D)) (G : Nat → Option D)
mutual
noncomputable def evE : T → Env → Src → R (Kd × D)
  | .c d, _, s => .ok (.frz, d) s
  | .v i, env, s => (match env[i]? with
    | some (.d false x) => .ok (.frz, x) s
    | some (.d true x) => .ok (.peek, x) s
    | _ => .stuck)
  | .g i, _, s => R.of ((G i).map fun d => (.frz, d)) s
  | .op o a b, env, s => (evE a env s).bind fun x s => (evE b env s).bind fun y s => R.of (opF o x.2 y.2) s
  | .cmp o a b, env, s => (evE a env s).bind fun x s => (evE b env s).bind fun y s => R.of ((cmpF o x.2 y.2).map fun b => (.frz, .bool b)) s
  | .cmp2 o o' a b c, env, s => (evE a env s).bind fun x s => (evE b env s).bind fun y s => (R.of (cmpF o x.2 y.2) s).bind fun k s =>
      if k then (evE c env s).bind fun z s => R.of ((cmpF o' y.2 z.2).map fun b => (.frz, .bool b)) s else .ok (.frz, .bool false) s
  | .and a b, env, s => (evE a env s).bind fun x s => if truth x.2 then evE b env s else .ok x s
  | .or a b, env, s => (evE a env s).bind fun x s => if truth x.2 then .ok x s else evE b env s
  | .not a, env, s => (evE a env s).bind fun x s => .ok (.frz, .bool (!truth x.2)) s
  | .neg a, env, s => (evE a env s).bind fun x s => (match x.2 with
    | .int i => .ok (.frz, .int (-i)) s
    | _ => .stuck)
  | .ife c a b, env, s => (evE c env s).bind fun x s => if truth x.2 then evE a env s else evE b env s
  | .tup es, env, s => (evA es env s).bind fun xs s => R.of ((noPeek xs).bind fun ds => if ds.length ≤ sizeLine then some (.frz, .tuple ds) else none) s
  | .lst es, env, s => (evA es env s).bind fun xs s => R.of ((noPeek xs).bind fun ds => if ds.length ≤ sizeLine then some (.own, .list ds) else none) s
  | .dnew, _, s => .ok (.own, .dict []) s
  | .sub a i, env, s => (evE a env s).bind fun x s => (evE i env s).bind fun y s => R.of ((subF x.2 y.2).map fun d => (.frz, d)) s
  | .sl a lo hi, env, s => (evE a env s).bind fun x s => (evO lo env s).bind fun l s => (evO hi env s).bind fun h s => R.of (slF x.2 l h) s
  | .rev a, env, s => (evE a env s).bind fun x s => R.of (revF x.2) s
  | .call f es, env, s => (evG es env s).bind fun xs s => (Φ f xs s).bind fun r s => .ok (if r.1 then .own else .frz, r.2) s
  | .bi b es, env, s => (evA es env s).bind fun xs s => R.of (biF b (xs.map (·.2))) s
  | .isi t a, env, s => (evE a env s).bind fun x s => .ok (.frz, .bool (isiF t x.2)) s
  | .me m o es, env, s => (evE o env s).bind fun x s => if isStrD x.2 then (evA es env s).bind fun xs s => R.of (meF m x.2 (xs.map (·.2))) s else .stuck
  | .lc tg it cond elt ws, env, s => (evI it env s).bind fun xs s => if xs.2.length ≤ sizeLine then
      (compL (fun x s => (R.of (bindT tg (.frz, x) (klE env ws)) s).bind fun env' s =>
        (evE cond env' s).calm.bind fun b s => if truth b.2 then (evE elt env' s).calm.bind fun y s => (if y.1 = .peek then .stuck else .ok (some y.2) s) else .ok none s) xs.2 s).bind fun ys s =>
      .ok (.own, .list ys) s else .stuck
  | .told f c okS badS es, env, s => (evG es env s).calm.bind fun xs s => (match Φ f xs s with
    | .ok r s' => .ok (.frz, .tuple [.str okS, r.2]) s'
    | .exc c' [a] s' => if c' = c then .ok (.frz, .tuple [.str badS, a]) s' else .stuck
    | _ => .stuck)
  | .tried f c txt es, env, s => (evG es env s).calm.bind fun xs s => (match Φ f xs s with
    | .ok r s' => .ok (.frz, r.2) s'
    | .exc c' [] s' => if c' = c then .ok (.frz, .str txt) s' else .stuck
    | _ => .stuck)
  | .srcG k i, env, s => (match env[i]? with
    | some .src => .ok (.frz, .int (s.get k)) s
    | _ => .stuck)
  | .srcL i, env, s => (match env[i]? with
    | some .src => .ok (.frz, .int (s.cells.length : Nat)) s
    | _ => .stuck)
  | _, _, _ => .stuck
noncomputable def evA : T → Env → Src → R (List (Kd × D))
  | .nil, _, s => .ok [] s
  | .cons a r, env, s => (evE a env s).bind fun x s => (evA r env s).bind fun xs s => .ok (x :: xs) s
  | _, _, _ => .stuck
/-- arguments for an own def -/
noncomputable def evG : T → Env → Src → R (List Arg)
  | .nil, _, s => .ok [] s
  | .cons a r, env, s => (evE a env s).bind fun x s => if x.1 = .peek then .stuck else (evG r env s).bind fun xs s => .ok (.d x.2 :: xs) s
  | .csrc i r, env, s => (match env[i]? with
    | some .src => (evG r env s).bind fun xs s => .ok (.src :: xs) s
    | _ => .stuck)
  | _, _, _ => .stuck
noncomputable def evO : T → Env → Src → R (Option Int)
  | .nil, _, s => .ok none s
  | .cons a _, env, s => (evE a env s).bind fun x s => R.of (intPart x.2) s
  | _, _, _ => .stuck
noncomputable def evI : T → Env → Src → R (Bool × List D)
  | .it a, env, s => (evE a env s).bind fun x s => R.of ((itF x.2).map fun xs => (decide (x.1 = .peek), xs)) s
  | .rng es, env, s => (evA es env s).bind fun xs s => R.of ((rngF (xs.map (·.2))).map fun xs => (false, xs)) s
  | .rvr es, env, s => (evA es env s).bind fun xs s => R.of ((rvrF (xs.map (·.2))).map fun xs => (false, xs)) s
  | .enu a, env, s => (evE a env s).bind fun x s => R.of ((enF x.2).map fun xs => (decide (x.1 = .peek), xs)) s
  | .rvd a, env, s => (evE a env s).bind fun x s => R.of ((itemsOf x.2).map fun xs => (decide (x.1 = .peek), xs.reverse)) s
  | .zip st a b, env, s => (evE a env s).bind fun x s => (evE b env s).bind fun y s => (match st, x.2, y.2 with
    | false, .list xs, .list ys => .ok (decide (x.1 = .peek) || decide (y.1 = .peek), zipD xs ys) s
    | false, .tuple xs, .tuple ys => .ok (decide (x.1 = .peek) || decide (y.1 = .peek), zipD xs ys) s
    | _, _, _ => .stuck)
  | _, _, _ => .stuck
end
noncomputable def evS : T → Env → Src → R Fl
  | .nil, env, s => .ok (.next env) s
  | .seq a r, env, s => (evS a env s).bind fun fl s1 => (match fl with
    | .next env' => evS r env' s1
    | fl => .ok fl s1)
  | .fz is r, env, s => evS r (fzE env is) s
  | .kl is r, env, s => evS r (klE env is) s
  | .pass, env, s => .ok (.next env) s
  | .asg tg e, env, s => (evE Φ G e env s).bind fun x s => R.of ((bindT tg x env).map .next) s
  | .par tgs es, env, s => (evA Φ G es env s).bind fun xs s => R.of ((bindP tgs xs env).map .next) s
  | .setx i ix e, env, s => (match ownL env i with
    | some xs => (evE Φ G e env s).bind fun x s => (evE Φ G ix env s).bind fun y s => if x.1 = .peek then .stuck else
      (match y.2 with
      | .int k => (match ixN xs.length k with
        | some j => .ok (.next (env.set i (.d true (.list (xs.set j x.2))))) s
        | none => .stuck)
      | _ => .stuck)
    | none => .stuck)
  | .aug i o e, env, s => (match env[i]? with
    | some (.d false x) => (evE Φ G e env s).bind fun y s => (match opI o x y.2 with
      | some z => .ok (.next (env.set i (.d false z))) s
      | none => .stuck)
    | _ => .stuck)
  | .augx i ix o e, env, s => (match ownL env i with
    | some xs => (evE Φ G ix env s).bind fun y s => (match y.2 with
      | .int k => if k < 0 then .stuck else (match xs[k.toNat]? with
        | some x => (evE Φ G e env s).bind fun z s => (match opI o x z.2 with
          | some w => .ok (.next (env.set i (.d true (.list (xs.set k.toNat w))))) s
          | none => .stuck)
        | none => .stuck)
      | _ => .stuck)
    | none => .stuck)
  | .app i e, env, s => (match ownL env i with
    | some xs => (evE Φ G e env s).bind fun x s => if x.1 = .peek then .stuck else
      (if xs.length < sizeLine then .ok (.next (env.set i (.d true (.list (xs ++ [x.2]))))) s else .stuck)
    | none => .stuck)
  | .ext i e, env, s => (match ownL env i with
    | some xs => (evE Φ G e env s).bind fun x s => (match x.2 with
      | .list ys => if xs.length + ys.length ≤ sizeLine then .ok (.next (env.set i (.d true (.list (xs ++ ys))))) s else .stuck
      | _ => .stuck)
    | none => .stuck)
  | .popS i, env, s => (match ownL env i with
      | some xs => if xs.length = 0 then .stuck else .ok (.next (env.set i (.d true (.list xs.dropLast)))) s
      | none => .stuck)
  | .ex e, env, s => (evE Φ G e env s).bind fun _ s => .ok (.next env) s
  | .ifs c a b, env, s => (evE Φ G c env s).bind fun x s => if truth x.2 then evS a env s else evS b env s
  | .wh z c b, env, s => whR (fun env s => (evE Φ G c env s).bind fun x s => .ok x.2 s) (fun env s => evS b env s) z env s
  | .for tg it b, env, s => (evI Φ G it env s).bind fun xs s => if xs.1 then .stuck else
      forL (fun x env s => (R.of (bindT tg (.frz, x) env) s).bind fun env' s => evS b env' s) xs.2 env s
  | .ret e, env, s => (evE Φ G e env s).bind fun x s => if x.1 = .peek then .stuck else .ok (.ret (decide (x.1 = .own)) x.2) s
  | .retv i, env, s => (match env[i]? with
    | some (.d o x) => .ok (.ret o x) s
    | _ => .stuck)
  | .retn, _, s => .ok (.ret false .none) s
  | .brk, env, s => .ok (.brk env) s
  | .cnt, env, s => .ok (.cnt env) s
  | .raise c ar es, env, s => (evA Φ G es env s).bind fun xs s => if xs.length = ar then (match scalOf (xs.map (·.2)) with
    | some ds => .exc c ds.reverse s
    | none => .stuck) else .stuck
  | .srcS k i e, env, s => (evE Φ G e env s).bind fun x s => (match env[i]?, x.2 with
    | some .src, .int n => .ok (.next env) (s.put k n)
    | _, _ => .stuck)
  | .srcP i, env, s => (match env[i]?, s.cells.getLast? with
    | some .src, some n => .ok (.next env) { s with cells := s.cells.dropLast, left := n }
    | _, _ => .stuck)
  | _, _, _ => .stuck
end

/-! ### defs and programs -/
inductive Fn where
  /-- parameters, slots, body -/
  | body (ar n : Nat) (b : T)
  /-- a def whose worth is told by hand -/
  | prim (f : List Arg → Src → R (Bool × D))
def Arg.slot : Arg → Slot
  | .d x => .d false x
  | .src => .src
def startE (n : Nat) (xs : List Arg) : Env := xs.map Arg.slot ++ List.replicate (n - xs.length) .e
def endF (r : R Fl) : R (Bool × D) := r.bind fun fl s => match fl with
  | .ret o d => .ok (o, d) s
  | .next _ => .ok (false, .none) s
  | _ => .stuck
noncomputable def Fn.run (Φ : Nat → List Arg → Src → R (Bool × D)) (G : Nat → Option D) (xs : List Arg) (s : Src) : Fn → R (Bool × D)
  | .body ar n b => if xs.length = ar then endF (evS Φ G b (startE n xs) s) else .stuck
  | .prim f => f xs s
/-- calls to the depth k -/
noncomputable def Phi (P : List Fn) (G : Nat → Option D) : Nat → Nat → List Arg → Src → R (Bool × D)
  | 0, _, _, _ => .stuck
  | k + 1, f, xs, s => (match P[f]? with
    | some fn => fn.run (Phi P G k) G xs s
    | none => .stuck)
end Tre
/-! Tre2: how trees stand in the abstract heap. -/
namespace Tre
open PySem PySem.Spec PyProof.Rows L2

mutual
inductive Rp (K : PySem.W.Frag) (H : Hp) : V → D → Prop
  | non : Rp K H .non .none
  | bl (b : Bool) : Rp K H (.bl b) (.bool b)
  | int (i : Int) : Rp K H (.int i) (.int i)
  | str (x : Str) (h1 : x.length ≤ sizeLine) (h2 : PyData.strOk x = true) : Rp K H (.str x) (.str x)
  | lst {a : Addr} {xs : List V} {ds : List D} : H a = some (.lst xs) → RpA K H xs ds → Rp K H (.ref a) (.list ds)
  | tup {a : Addr} {xs : List V} {ds : List D} : SqT K H a xs → RpA K H xs ds → Rp K H (.ref a) (.tuple ds)
inductive RpA (K : PySem.W.Frag) (H : Hp) : List V → List D → Prop
  | nil : RpA K H [] []
  | cons {v : V} {vs : List V} {d : D} {ds : List D} : Rp K H v d → RpA K H vs ds → RpA K H (v :: vs) (d :: ds)
end

theorem Same.sqT {K : PySem.W.Frag} {H H' : Hp} {a : Addr} {xs : List V} (e : Same H H') (h : SqT K H a xs) : SqT K H' a xs := by
  rcases h with (h | ⟨o, h⟩) | h
  · exact .inl (.inl (e _ _ h))
  · exact .inl (.inr ⟨o, e _ _ h⟩)
  · exact .inr h

section
variable {K : PySem.W.Frag} {H H' : Hp}
mutual
theorem Rp.mono (e : Same H H') : ∀ {d : D} {v : V}, Rp K H v d → Rp K H' v d
  | .none, _, h => by cases h; exact .non
  | .bool b, _, h => by cases h; exact .bl b
  | .int i, _, h => by cases h; exact .int i
  | .str x, _, h => by cases h with | str _ h1 h2 => exact .str x h1 h2
  | .list ds, _, h => by cases h with | lst h1 h2 => exact .lst (e _ _ h1) (RpA.mono e h2)
  | .tuple ds, _, h => by cases h with | tup h1 h2 => exact .tup (Same.sqT e h1) (RpA.mono e h2)
  | .dict _, _, h => by cases h
theorem RpA.mono (e : Same H H') : ∀ {ds : List D} {vs : List V}, RpA K H vs ds → RpA K H' vs ds
  | [], _, h => by cases h; exact .nil
  | d :: ds, _, h => by cases h with | cons h1 h2 => exact .cons (Rp.mono e h1) (RpA.mono e h2)
end
mutual
theorem Rp.dp : ∀ {d : D} {v : V}, Rp K H v d → Dp K H v d
  | .none, _, h => by cases h; exact .non
  | .bool b, _, h => by cases h; exact .bl b
  | .int i, _, h => by cases h; exact .int i
  | .str x, _, h => by cases h with | str _ h1 h2 => exact .str x
  | .list ds, _, h => by cases h with | lst h1 h2 => exact .lst (.of h1) (RpA.dp h2)
  | .tuple ds, _, h => by cases h with | tup h1 h2 => exact .tup h1 (RpA.dp h2)
  | .dict _, _, h => by cases h
theorem RpA.dp : ∀ {ds : List D} {vs : List V}, RpA K H vs ds → DpAll K H vs ds
  | [], _, h => by cases h; exact .nil
  | d :: ds, _, h => by cases h with | cons h1 h2 => exact .cons (Rp.dp h1) (RpA.dp h2)
end
mutual
theorem Rp.lay : ∀ {d : D} {v : V}, Rp K H v d → d.canLay0 = true
  | .none, _, _ => by simp only [PyData.canLay0]
  | .bool b, _, _ => by simp only [PyData.canLay0]
  | .int i, _, _ => by simp only [PyData.canLay0]
  | .str x, _, h => by cases h with | str _ h1 h2 => simpa only [PyData.canLay0] using h2
  | .list ds, _, h => by cases h with | lst h1 h2 => simpa only [PyData.canLay0] using RpA.lay h2
  | .tuple ds, _, h => by cases h with | tup h1 h2 => simpa only [PyData.canLay0] using RpA.lay h2
  | .dict _, _, h => by cases h
theorem RpA.lay : ∀ {ds : List D} {vs : List V}, RpA K H vs ds → PyData.canLayAll0 ds = true
  | [], _, h => by simp only [PyData.canLayAll0]
  | d :: ds, _, h => by cases h with | cons h1 h2 => simp only [PyData.canLayAll0, Rp.lay h1, RpA.lay h2, Bool.and_self]
end
theorem RpA.len : ∀ {ds : List D} {vs : List V}, RpA K H vs ds → vs.length = ds.length
  | [], _, h => by cases h; rfl
  | d :: ds, _, h => by cases h with | cons h1 h2 => simp [RpA.len h2]
theorem RpA.get : ∀ {ds : List D} {vs : List V} {i : Nat} {d : D}, RpA K H vs ds → ds[i]? = some d → ∃ v, vs[i]? = some v ∧ Rp K H v d
  | _, _, 0, _, h, e => by
    cases h with
    | nil => simp at e
    | cons h1 h2 => simp at e; subst e; exact ⟨_, rfl, h1⟩
  | _, _, i + 1, d, h, e => by
    cases h with
    | nil => simp at e
    | cons h1 h2 =>
      obtain ⟨v, e1, r⟩ := RpA.get (i := i) (d := d) h2 (by simpa using e)
      exact ⟨v, by simpa using e1, r⟩
theorem RpA.getV : ∀ {ds : List D} {vs : List V} {i : Nat} {v : V}, RpA K H vs ds → vs[i]? = some v → ∃ d, ds[i]? = some d ∧ Rp K H v d
  | _, _, 0, _, h, e => by
    cases h with
    | nil => simp at e
    | cons h1 h2 => simp at e; subst e; exact ⟨_, rfl, h1⟩
  | _, _, i + 1, v, h, e => by
    cases h with
    | nil => simp at e
    | cons h1 h2 =>
      obtain ⟨d, e1, r⟩ := RpA.getV (i := i) (v := v) h2 (by simpa using e)
      exact ⟨d, by simpa using e1, r⟩
theorem RpA.app : ∀ {ds es : List D} {vs ws : List V}, RpA K H vs ds → RpA K H ws es → RpA K H (vs ++ ws) (ds ++ es)
  | [], _, _, _, h, g => by cases h; exact g
  | d :: ds, _, _, _, h, g => by cases h with | cons h1 h2 => exact .cons h1 (RpA.app h2 g)
theorem RpA.one {d : D} {v : V} (h : Rp K H v d) : RpA K H [v] [d] := .cons h .nil
theorem RpA.take : ∀ (n : Nat) {ds : List D} {vs : List V}, RpA K H vs ds → RpA K H (vs.take n) (ds.take n)
  | 0, _, _, _ => by simp; exact .nil
  | n + 1, _, _, h => by
    cases h with
    | nil => simp; exact .nil
    | cons h1 h2 => exact .cons h1 (RpA.take n h2)
theorem RpA.drop : ∀ (n : Nat) {ds : List D} {vs : List V}, RpA K H vs ds → RpA K H (vs.drop n) (ds.drop n)
  | 0, _, _, h => by simpa using h
  | n + 1, _, _, h => by
    cases h with
    | nil => simp; exact .nil
    | cons h1 h2 => simpa using RpA.drop n h2
theorem RpA.set {d : D} {v : V} (r : Rp K H v d) : ∀ (i : Nat) {ds : List D} {vs : List V}, RpA K H vs ds → RpA K H (vs.set i v) (ds.set i d)
  | _, _, _, .nil => by simp; exact .nil
  | 0, _, _, .cons h1 h2 => .cons r h2
  | i + 1, _, _, .cons h1 h2 => .cons h1 (RpA.set r i h2)
theorem RpA.rev : ∀ {ds : List D} {vs : List V}, RpA K H vs ds → RpA K H vs.reverse ds.reverse
  | [], _, h => by cases h; exact .nil
  | d :: ds, _, h => by
    cases h with
    | cons h1 h2 =>
      rw [List.reverse_cons, List.reverse_cons]
      exact RpA.app (RpA.rev h2) (RpA.one h1)
theorem RpA.rep {ds : List D} {vs : List V} (h : RpA K H vs ds) : ∀ n : Nat, RpA K H (List.replicate n vs).flatten (List.replicate n ds).flatten
  | 0 => by simp; exact .nil
  | n + 1 => by
    rw [List.replicate_succ, List.replicate_succ, List.flatten_cons, List.flatten_cons]
    exact RpA.app h (RpA.rep h n)
theorem RpA.dropLast {ds : List D} {vs : List V} (h : RpA K H vs ds) : RpA K H vs.dropLast ds.dropLast := by
  rw [List.dropLast_eq_take, List.dropLast_eq_take, h.len]
  exact RpA.take _ h
theorem RpA.cut {ds : List D} {vs : List V} (h : RpA K H vs ds) (lo hi : Option Int) : RpA K H (cutV vs lo hi) (cutD ds lo hi) := by
  unfold cutV cutD
  rw [h.len]
  exact RpA.take _ (RpA.drop _ h)
end

/-! ### hidden addresses -/
open Classical in
noncomputable def hide (H : Hp) (O : Addr → Prop) : Hp := fun a => if O a then none else H a
theorem hide_out {H : Hp} {O : Addr → Prop} {a : Addr} (h : ¬ O a) : hide H O a = H a := by unfold hide; rw [if_neg h]
theorem hide_some {H : Hp} {O : Addr → Prop} {a : Addr} {o : HO} (h : hide H O a = some o) : ¬ O a ∧ H a = some o := by
  unfold hide at h
  split at h
  · cases h
  · exact ⟨by assumption, h⟩
theorem same_hide {H : Hp} {O : Addr → Prop} : Same (hide H O) H := fun _ _ e => (hide_some e).2
theorem hide_same {H H' : Hp} {O O' : Addr → Prop} (h : ∀ a o, ¬ O a → H a = some o → H' a = some o) (hO : ∀ a, O' a → ¬ O a → H a = none) : Same (hide H O) (hide H' O') := fun a o e => by
  obtain ⟨h1, h2⟩ := hide_some e
  rw [hide_out (fun z => by rw [hO a z h1] at h2; cases h2)]
  exact h a o h1 h2
theorem hide_upd {H : Hp} {O : Addr → Prop} {a : Addr} {o : HO} (h : O a) : hide (upd H a o) O = hide H O := by
  funext b
  unfold hide
  split
  · rfl
  · rw [upd_ne (fun z => by subst z; contradiction)]

/-! ### the drawn source -/
structure SA where
  a1 : Addr
  a2 : Addr
  ts : List (Addr × Str)
/-- what may change anywhere: the source, the tables of code objects -/
def SA.Out (S : SA) (b : Addr) : Prop := b = S.a1 ∨ b = S.a2 ∨ ∃ q, (b, q) ∈ S.ts
def SrcR (S : SA) (H : Hp) (s : Src) : Prop := S.a1 ≠ S.a2 ∧
  H S.a1 = some (.dK [(.inr "cells", .ref S.a2), (.inr "left", .int s.left), (.inr "mixed", .int s.mixed), (.inr "turn", .int s.turn)]) ∧
  H S.a2 = some (.lst (s.cells.map V.int)) ∧ LamX.Tabs S.ts H
/-- all but the source stands as it stood -/
def Ex (S : SA) (H H' : Hp) : Prop := ∀ b o, H b = some o → ¬ S.Out b → H' b = some o
theorem Ex.refl (S : SA) (H : Hp) : Ex S H H := fun _ _ e _ => e
theorem Ex.trans {S : SA} {H H1 H2 : Hp} (a : Ex S H H1) (b : Ex S H1 H2) : Ex S H H2 := fun c o e h1 => b c o (a c o e h1) h1
theorem Ex.of {S : SA} {H H' : Hp} (h : Same H H') : Ex S H H' := fun b o e _ => h b o e
theorem same_new {H : Hp} {p : Addr} {o : HO} (h : H p = none) : Same H (upd H p o) := fun b x e => by rw [upd_ne (ne_of_none e h)]; exact e
theorem Ex.new {S : SA} {H : Hp} {p : Addr} {o : HO} (h : H p = none) : Ex S H (upd H p o) := .of (same_new h)
theorem SrcR.same {S : SA} {H H' : Hp} {s : Src} (h : SrcR S H s) (e : Same H H') : SrcR S H' s := ⟨h.1, e _ _ h.2.1, e _ _ h.2.2.1, h.2.2.2.ext e⟩
theorem SrcR.there1 {S : SA} {H : Hp} {s : Src} (h : SrcR S H s) : H S.a1 ≠ none := by rw [h.2.1]; exact fun z => nomatch z
theorem SrcR.there2 {S : SA} {H : Hp} {s : Src} (h : SrcR S H s) : H S.a2 ≠ none := by rw [h.2.2.1]; exact fun z => nomatch z
theorem SrcR.there {S : SA} {H : Hp} {s : Src} (h : SrcR S H s) {a : Addr} (o : S.Out a) : H a ≠ none := by
  rcases o with rfl | rfl | ⟨q, hq⟩
  · exact h.there1
  · exact h.there2
  · obtain ⟨ps, e, _⟩ := h.2.2.2 _ hq
    have e : H a = _ := e
    rw [e]; exact fun z => nomatch z
theorem Ex.free {S : SA} {H H' : Hp} {s' : Src} (e : Ex S H H') (h : SrcR S H' s') {a : Addr} (n : H' a = none) : H a = none := by
  cases q : H a with
  | none => rfl
  | some o =>
    rw [e a o q fun z => h.there z n] at n
    cases n

/-! ### slots -/
def SlotOk (K : PySem.W.Frag) (S : SA) (O : Addr → Prop) (H0 H : Hp) (O0 : Addr → Prop) : Slot → Option V → Prop
  | .e, _ => True
  | .d false d, o => ∃ v, o = some v ∧ Rp K (hide H O) v d
  | .d true d, o => ∃ a vs ds, o = some (.ref a) ∧ d = .list ds ∧ H a = some (.lst vs) ∧ RpA K (hide H O) vs ds ∧ O a ∧ ¬ O0 a ∧ H0 a = none
  | .src, o => o = some (.ref S.a1)
structure Rl (K : PySem.W.Frag) (S : SA) (O0 : Addr → Prop) (H0 : Hp) (O : Addr → Prop) (env : Env) (σ : L2.St) (H : Hp) : Prop where
  len : env.length = σ.length
  so : ∀ b, S.Out b → O0 b
  sub : ∀ a, O0 a → O a
  dom : ∀ a, O a → H a ≠ none
  dom0 : ∀ a, O0 a → H0 a ≠ none
  same : Ex S H0 H
  slots : ∀ (i : Nat) (x : Slot) (o : Option V), env[i]? = some x → σ[i]? = some o → SlotOk K S O H0 H O0 x o
  inj : ∀ (i j : Nat) (d d' : D) (a : Addr), env[i]? = some (.d true d) → env[j]? = some (.d true d') → σ[i]? = some (some (.ref a)) → σ[j]? = some (some (.ref a)) → i = j
/-- a value -/
def VR (K : PySem.W.Frag) (S : SA) (O : Addr → Prop) (Ha H : Hp) : Kd → V → D → Prop
  | .frz, v, d => Rp K (hide H O) v d
  | .own, v, d => ∃ a vs ds, v = .ref a ∧ d = .list ds ∧ Ha a = none ∧ H a = some (.lst vs) ∧ RpA K (hide H fun b => O b ∨ b = a) vs ds
  | .peek, v, d => ∃ a vs ds, v = .ref a ∧ d = .list ds ∧ H a = some (.lst vs) ∧ RpA K (hide H O) vs ds ∧ ¬ S.Out a

section
variable {K : PySem.W.Frag} {S : SA} {O0 O : Addr → Prop} {H0 H H' Ha : Hp} {env : Env} {σ : L2.St} {s s' : Src}
theorem Rl.nO0 (r : Rl K S O0 H0 O env σ H) {b : Addr} (n : ¬ O0 b) : ¬ S.Out b := fun z => n (r.so b z)
theorem Rl.nO (r : Rl K S O0 H0 O env σ H) {b : Addr} (n : ¬ O b) : ¬ S.Out b := fun z => n (r.sub _ (r.so b z))
theorem Rl.hid (r : Rl K S O0 H0 O env σ H) (e : Ex S H H') : Same (hide H O) (hide H' O) :=
  hide_same (fun a o n q => e a o q (r.nO n)) (fun a h n => absurd h n)
/-- the heap has grown -/
theorem Rl.ext (r : Rl K S O0 H0 O env σ H) (e : Ex S H H') (q : SrcR S H' s') : Rl K S O0 H0 O env σ H' where
  len := r.len
  so := r.so
  sub := r.sub
  dom := fun a h => by
    cases p : H a with
    | none => exact absurd p (r.dom a h)
    | some o =>
      by_cases n1 : S.Out a
      · exact q.there n1
      · rw [e a o p n1]; exact fun z => nomatch z
  dom0 := r.dom0
  same := r.same.trans e
  slots := fun i x o h1 h2 => by
    have h := r.slots i x o h1 h2
    cases x with
    | e => trivial
    | src => exact h
    | d k d =>
      cases k with
      | false =>
        obtain ⟨v, rfl, p⟩ := h
        exact ⟨v, rfl, p.mono (r.hid e)⟩
      | true =>
        obtain ⟨a, vs, ds, rfl, rfl, p1, p2, p3, p4, p5⟩ := h
        exact ⟨a, vs, ds, rfl, rfl, e a _ p1 (r.nO0 p4), p2.mono (r.hid e), p3, p4, p5⟩
  inj := r.inj
theorem Rl.out (r : Rl K S O0 H0 O env σ H) {a : Addr} (h : H a = none) : ¬ O a := fun z => r.dom a z h
theorem Rl.nsrc (r : Rl K S O0 H0 O env σ H) {a : Addr} (h : H a = none) : ¬ S.Out a := r.nO (r.out h)
theorem hide_less {O' : Addr → Prop} (h : ∀ a, O' a → O a) : Same (hide H O) (hide H O') := hide_same (fun _ _ _ q => q) fun a p n => absurd (h a p) n
theorem VR.rp {k : Kd} {v : V} {d : D} (h : VR K S O Ha H k v d) : Rp K H v d := by
  cases k with
  | frz => exact h.mono same_hide
  | own => obtain ⟨a, vs, ds, rfl, rfl, _, e, p⟩ := h; exact .lst e (p.mono same_hide)
  | peek => obtain ⟨a, vs, ds, rfl, rfl, e, p, _⟩ := h; exact .lst e (p.mono same_hide)
/-- a new list may be seen -/
theorem VR.frz {k : Kd} {v : V} {d : D} (h : VR K S O Ha H k v d) (hO : ∀ a, O a → Ha a ≠ none) (hk : k ≠ .peek) : Rp K (hide H O) v d := by
  cases k with
  | frz => exact h
  | own =>
    obtain ⟨a, vs, ds, rfl, rfl, n, e, p⟩ := h
    refine .lst ?_ (p.mono (hide_less fun b z => .inl z))
    rw [hide_out (fun z => hO a z n)]
    exact e
  | peek => exact absurd rfl hk
theorem VR.list {k : Kd} {v : V} {ds : List D} (h : VR K S O Ha H k v (.list ds)) : ∃ a vs, v = .ref a ∧ H a = some (.lst vs) ∧ RpA K (hide H O) vs ds := by
  cases k with
  | frz =>
    cases h with
    | lst h1 h2 => exact ⟨_, _, rfl, same_hide _ _ h1, h2⟩
  | own => obtain ⟨a, vs, ds', rfl, e0, n, e, p⟩ := h; cases e0; exact ⟨a, vs, rfl, e, p.mono (hide_less fun b z => .inl z)⟩
  | peek => obtain ⟨a, vs, ds', rfl, e0, e, p, _⟩ := h; cases e0; exact ⟨a, vs, rfl, e, p⟩
theorem VR.tuple {k : Kd} {v : V} {ds : List D} (h : VR K S O Ha H k v (.tuple ds)) : ∃ a vs, v = .ref a ∧ SqT K H a vs ∧ RpA K (hide H O) vs ds := by
  cases k with
  | frz =>
    cases h with
    | tup h1 h2 => exact ⟨_, _, rfl, Same.sqT same_hide h1, h2⟩
  | own => obtain ⟨a, vs, ds', rfl, e0, n, e, p⟩ := h; cases e0
  | peek => obtain ⟨a, vs, ds', rfl, e0, e, p, _⟩ := h; cases e0
theorem VR.tupleF {k : Kd} {v : V} {ds : List D} (h : VR K S O Ha H k v (.tuple ds)) : Rp K (hide H O) v (.tuple ds) := by
  cases k with
  | frz => exact h
  | own => obtain ⟨a, vs, ds', rfl, e0, n, e, p⟩ := h; cases e0
  | peek => obtain ⟨a, vs, ds', rfl, e0, e, p, _⟩ := h; cases e0
theorem VR.int {k : Kd} {v : V} {i : Int} (h : VR K S O Ha H k v (.int i)) : v = .int i := by have := h.rp; cases this; rfl
theorem VR.bool {k : Kd} {v : V} {b : Bool} (h : VR K S O Ha H k v (.bool b)) : v = .bl b := by have := h.rp; cases this; rfl
theorem VR.none {k : Kd} {v : V} (h : VR K S O Ha H k v .none) : v = .non := by have := h.rp; cases this; rfl
theorem VR.str {k : Kd} {v : V} {x : Str} (h : VR K S O Ha H k v (.str x)) : v = .str x ∧ x.length ≤ sizeLine ∧ PyData.strOk x = true := by
  have := h.rp
  cases this with
  | str _ h1 h2 => exact ⟨rfl, h1, h2⟩
theorem VR.ext {k : Kd} {v : V} {d : D} {H1 : Hp} (r : Rl K S O0 H0 O env σ H) (h : VR K S O H H1 k v d) (e0 : Ex S H H1) (q1 : SrcR S H1 s) (e : Ex S H1 H') (q : SrcR S H' s') : VR K S O H H' k v d := by
  have r1 := r.ext e0 q1
  cases k with
  | frz => exact Rp.mono (r1.hid e) h
  | own =>
    obtain ⟨a, vs, ds, rfl, rfl, n, x, p⟩ := h
    have n1 := r.nsrc n
    refine ⟨a, vs, ds, rfl, rfl, n, e a _ x n1, p.mono (hide_same (fun b o nb hb => ?_) fun b z nz => absurd z nz)⟩
    exact e b o hb (r.nO fun z => nb (.inl z))
  | peek =>
    obtain ⟨a, vs, ds, rfl, rfl, x, p, n1⟩ := h
    exact ⟨a, vs, ds, rfl, rfl, e a _ x n1, p.mono (r1.hid e), n1⟩
/-- what is new behind H1 is new behind H -/
theorem VR.back {k : Kd} {v : V} {d : D} {H1 : Hp} (h : VR K S O H1 H' k v d) (e0 : Ex S H H1) (q1 : SrcR S H1 s) : VR K S O H H' k v d := by
  cases k with
  | frz => exact h
  | own => obtain ⟨a, vs, ds, rfl, rfl, n, x, p⟩ := h; exact ⟨a, vs, ds, rfl, rfl, e0.free q1 n, x, p⟩
  | peek => exact h
end
end Tre
set_option maxHeartbeats 2000000
/-! TreG: a lambda without parameters handed to a def; no guard stands. -/
namespace Tre
open PySem PySem.Spec PyProof.Rows L2 LamX

/-- what the callee's body is told: a() answers as the lambda's body -/
abbrev Acts (X : Cx) (Ng : List Str) (x : Str) (sg : Scope) (g : Addr) (cdg : Value) (a : Str) (f c' : Addr) (s : Shared) (H : Hp) (q : Str) (tl : XK → Hp → VK → Prop) : Prop :=
  ∀ (W : WX) (pn : List (Addr × Obj)) (xe : Value → Shared → Prop) (E : XK) (p1 p2 : Pos), Takes ((cxOf (L2.CX X.prog X.w) X.prog X.w X.K X.mg X.base Ng x sg g cdg X.A X.stack s H fun _ _ _ => False).tr pn xe) W → (∀ cls d (σ' : L2.St) H', σ'.length = Ng.length → E cls d H' → W cls d σ' H') →
    PE ((cxOf (L2.CX X.prog X.w) X.prog X.w X.K X.mg X.base Ng x sg g cdg X.A X.stack s H fun _ _ _ => False).tr pn xe) (.Call (.Name a p1) [] [] p2) (fun σZ HZ Q => σZ[0]? = some (some (.ref f)) ∧ HZ c' = some (CodeO c' q) ∧ tl E HZ Q)

section
variable {X : Cx} {pins : List (Addr × Obj)} {σ : L2.St} {H HZ : Hp} {s s1 : Shared}
theorem actG {Ng : List Str} {qg : Str} {sg : Scope} {g f c' : Addr} {cdg pm ctv : Value} {params : Arguments} {body : Expr} {scope : Scope} {k : Nat} {a : Str} {t : XK → TE}
    (I : Inv X pins σ H s) (hA : X.A.guards = some []) (L : LamS X.env.scope scope) (hf : s.heap.get? f = some (PySem.W.kla_obj "<lambda>" (X.env.qual ++ "<lambda>") params body scope (cloFrom X.env.cells scope.names []) pm c' ctv)) (hfn : H f = none) (hfr : f ∉ frs X.stack)
    (hbind : bindArgs (PySem.W.kla_fn "<lambda>" (X.env.qual ++ "<lambda>") params body scope (cloFrom X.env.cells scope.names []) pm (.ref c') ctv) ⟨[], []⟩ = pure []) (hr : Room (k + 1) (X.A.deeper (envOfC qg sg s.heap.objs.size g cdg)))
    (hbody : ∀ (A : Around) (outer : List PySem.Env) (s : Shared) (H : Hp) (E : XK), A.guards = some [] → Room k (A.deeper (lamEnv X scope s.heap.objs.size f c')) → PE (lamCx X A outer s H E scope f c') body (t E))
    (hN : Ng[0]? = some a) (hv : Vis sg a) (hd : (a == ("__debug__" : Str)) = false) (hcd : (a == ("__classdict__" : Str)) = false) :
    Acts X Ng qg sg g cdg a f c' s H (X.env.qual ++ "<lambda>") (fun E H' Q' => t E σ H' Q') := by
  intro W pn xe E p1 p2 tk hW
  constructor
  intro pinsZ sZ σZ HZ Q IZ h
  obtain ⟨hs, hc, ht⟩ := h
  have var := (pe_var (pos := p1) (i := 0) hN hv hd hcd).run pinsZ sZ σZ HZ (fun v H1 => v = .ref f ∧ H1 = HZ) IZ ⟨.ref f, hs, rfl, rfl⟩
  refine wpAny_Call_Name_kw (thn var ?_)
  rintro u s1 ⟨v, H1, I1, r1, rfl, rfl⟩
  obtain rfl : u = Value.ref f := r1
  have of1 := I1.base.keep f _ hf hfn hfr (fun z => nomatch (show f ∈ ([] : List Addr) from z))
  refine PySem.W.callWith_F0 ⟨_, _, _, _, of1⟩ ?_
  have un : Un (frs X.stack) [] H H1 s.heap s1.heap := I1.base
  obtain ⟨⟨oc, vs, tc, hoc, hdc, hvc⟩, _, _⟩ := I1.hok c' _ hc
  have rc : codeAny (model X.prog X.w) (X.A.deeper (envOfC qg sg s.heap.objs.size g cdg)) (.call (.ref f) ⟨[], []⟩) (CR (L2.CX X.prog X.w) (envOfC qg sg s.heap.objs.size g cdg :: X.stack) X.prog X.w H1 s1 Q E) s1 := by
    refine PySem.W.kla_callFunE hr.depth of1 rfl L.co L.gen rfl ⟨c', oc, vs, tc, rfl, hoc, hdc, hvc⟩ ?_
    rw [hbind]
    refine wpAny_pure (wpAny_newFunctionEnv (fun y hy => (L.own y hy).2) (fun y hy => absurd hy (by simp)) (fun h₁ hns hsb => ⟨I1.nolimit.fresh _ hsb, ?_⟩) L.kind)
    have kp : ∀ b o, s1.heap.get? b = some o → h₁.get? b = some o := fun b o e => hsb.extBut b o (Nat.ne_of_lt (Heap.lt_size e)) (Heap.get?_push_of_some _ e)
    have J := lam_start2 (A := X.A.deeper (envOfC qg sg s.heap.objs.size g cdg)) (outer := envOfC qg sg s.heap.objs.size g cdg :: X.stack) (f := f) (c' := c') (E := E) (tk := s1.toks + ([] : List (Str × Value)).length) I L I1.env0 hr.hd un hns kp
    refine PySem.W.kla_codeExpr (env := lamEnv X scope s1.heap.objs.size f c') ?_
    refine wpAny_mono ((hbody (X.A.deeper (envOfC qg sg s.heap.objs.size g cdg)) _ s1 H1 E hA (hr.deeper _)).run [] _ _ H1 Q J ht) ?_ fun e s' hq => hq
    rintro v s' ⟨w', H', J', rv, q⟩
    exact ⟨w', H', J'.os, J'.bare, J'.base, J'.hok, rv, q⟩
  refine wpAny_call (codeAny_mono rc ?_)
  intro r s' hq
  cases r with
  | error e => exact tk e s' (XE.of_call I1 (fun cls d H' h => hW cls d σZ H' I1.len h) hq)
  | ok fl =>
    cases fl with
    | ret u => exact I1.after hq
    | next => exact False.elim hq
    | brk => exact False.elim hq
    | cont => exact False.elim hq
/-- the lambda is made: nothing but the table of the def's code changes -/
theorem lam_makeG {T : List (Addr × Str)} {c P : Addr} {params : Arguments} {body : Expr} {scope : Scope} {pos : Pos} {E : Value → Shared → Prop} {Q : Value → Shared → Prop} (I : Inv X pins σ H s) (TB : TabB X.base X.mg c P) (hcode : X.env.code = .ref c)
    (hm : (P, X.env.qual ++ "<lambda>") ∈ T) (hu : ∀ p ∈ T, p.1 = P → p.2 = X.env.qual ++ "<lambda>") (hT : Tabs T H) (hdef : defaultsOf params X.env = ([], [])) (hfree : ∀ y ∈ scope.names, y.2 = .free → ∃ c, X.env.cells.lookup y.1 = some c)
    (h : ∀ (f c' : Addr) (pm ctv : Value) (H1 : Hp) (s' : Shared), Inv X pins σ H1 s' → (∀ b o, H b = some o → b ≠ P → H1 b = some o) → Tabs T H1 →
      s'.heap.get? f = some (PySem.W.kla_obj "<lambda>" (X.env.qual ++ "<lambda>") params body scope (cloFrom X.env.cells scope.names []) pm c' ctv) → H1 f = none → f ∉ frs X.stack → H1 c' = some (CodeO c' (X.env.qual ++ "<lambda>")) → Q (.ref f) s') :
    wpAny (model X.prog X.w) X.A (eval (.Lambda params body scope pos) X.env) Q E s := by
  obtain ⟨ps, hP, ht, ha⟩ := hT _ hm
  refine PySem.W.kla_eval hdef ?_
  have bP : s.heap.BuiltinsAt X.mg P := TB.bm.keeps I.bk
  have hP' : s.heap.get? P = some { cls := .none, data := .fields ps } := I.hok P _ hP
  have nofr : ∀ f, s.heap.objs.size ≤ f → f ∉ frs X.stack := fun f hf z => by
    rcases List.mem_cons.mp (I.stkSub _ z) with e | e
    · exact absurd (Nat.lt_of_lt_of_le (e ▸ I.lt : f < s.heap.objs.size) hf) (Nat.lt_irrefl _)
    · exact I.nofs hf e
  cases hc : codeAmong pos ps.toList with
  | some cv =>
    obtain ⟨c', rfl, hco⟩ := ha pos cv hc
    refine PySem.W.kla_makeFunctionHit (mg := X.mg) (c := c) (P := P) (ps := ps) (closure_ok hfree) I.ok.glob (I.mod.glob.keeps I.bk) hcode (TB.code.keeps I.bk) hP' ht hc bP fun ctv h' tk hx hsz => ?_
    refine h h'.objs.size c' ((X.mg "__name__").getD .none) ctv H _ (I.kept (t' := tk) fun b o e => Heap.get?_push_of_some _ (hx b o e)) (fun _ _ e _ => e) hT (Heap.get?_push_size _ rfl) (I.hok.fresh hsz) (nofr _ hsz) hco
  | none =>
    refine PySem.W.kla_makeFunction (mg := X.mg) (c := c) (P := P) (ps := ps) (closure_ok hfree) I.ok.glob (I.mod.glob.keeps I.bk) hcode (TB.code.keeps I.bk) hP' ht hc TB.gP bP fun c' ctv h' tk hx hge hlt hrec htb => ?_
    obtain ⟨c2, oc, vs, t, e2, hoc, hd, hv⟩ := hrec
    cases e2
    have hsz : s.heap.objs.size ≤ h'.objs.size := Nat.le_trans hge (Nat.le_of_lt hlt)
    have nC : H c' = none := I.hok.fresh hge
    have I1 := inv_table (t' := tk) (more := #[rawInt pos.line, rawInt pos.col, .ref c']) (h' := h'.push (PySem.W.kla_obj "<lambda>" (X.env.qual ++ "<lambda>") params body scope (cloFrom X.env.cells scope.names []) ((X.mg "__name__").getD .none) c' ctv)) I hP
      (fun b o hb e => Heap.get?_push_of_some _ (hx b o hb e)) (Heap.get?_push_of_some _ htb) hge ⟨oc, vs, t, Heap.get?_push_of_some _ hoc, hd, hv⟩
    have hE : ∀ b o, H b = some o → b ≠ P → (upd (upd H P (.tbl (ps ++ #[rawInt pos.line, rawInt pos.col, .ref c']))) c' (CodeO c' (X.env.qual ++ "<lambda>"))) b = some o := fun b o e n => by
      rw [upd_ne (ne_of_none e nC), upd_ne n]; exact e
    have old : ∀ c0 q0, H c0 = some (CodeO c0 q0) → (upd (upd H P (.tbl (ps ++ #[rawInt pos.line, rawInt pos.col, .ref c']))) c' (CodeO c' (X.env.qual ++ "<lambda>"))) c0 = some (CodeO c0 q0) := fun c0 q0 e =>
      hE _ _ e fun z => by rw [z, hP] at e; exact codeO_ne ps (Option.some.inj e).symm
    refine h h'.objs.size c' ((X.mg "__name__").getD .none) ctv _ _ I1 hE (fun p hp => ?_) (Heap.get?_push_size _ rfl) ?_ (nofr _ hsz) upd_same
    · by_cases hb : p.1 = P
      · rw [hu p hp hb, hb]
        have eL : (ps ++ #[rawInt pos.line, rawInt pos.col, .ref c']).toList = ps.toList ++ [rawInt pos.line, rawInt pos.col, .ref c'] := by simp
        refine ⟨_, by rw [upd_ne (ne_of_none hP nC), upd_same], by rw [eL]; exact PySem.TriplesOk_snoc _ _ _ _ ht, fun p' cv hcv => ?_⟩
        rw [eL] at hcv
        rcases among_app _ ht hcv with z | rfl
        · obtain ⟨c0, e1, e2⟩ := ha p' cv z
          exact ⟨c0, e1, old _ _ e2⟩
        · exact ⟨c', rfl, upd_same⟩
      · obtain ⟨ps', a1, a2, a3⟩ := hT p hp
        refine ⟨ps', hE _ _ a1 hb, a2, fun p' cv hcv => ?_⟩
        obtain ⟨c0, e1, e2⟩ := a3 p' cv hcv
        exact ⟨c0, e1, old _ _ e2⟩
    · rw [upd_ne (Nat.ne_of_gt hlt), upd_ne (Nat.ne_of_gt (Nat.lt_of_lt_of_le (Heap.lt_size hP') hsz))]
      exact I.hok.fresh hsz
/-- the reading of such a call -/
def tLamG (P : Addr) (T : List (Addr × Str)) (TT : (XK → Hp → VK → Prop) → Hp → VK → Prop) (t : XK → TE) : TE := fun σ H Q => Tabs T H ∧ ∀ H1, (∀ b o, H b = some o → b ≠ P → H1 b = some o) → Tabs T H1 → TT (fun E H' Q' => t E σ H' Q') H1 Q
/-- the callee's promise: what it makes of a call of its parameter -/
def GivesG (X : Cx) (Ng : List Str) (x : Str) (sg : Scope) (g : Addr) (cdg : Value) (bg : List Stmt) (a : Str) (q : Str) (TT : (XK → Hp → VK → Prop) → Hp → VK → Prop) : Prop :=
  ∀ (f c' : Addr) (s : Shared) (H : Hp) (Q : VK) (tl : XK → Hp → VK → Prop), Acts X Ng x sg g cdg a f c' s H q tl → H c' = some (CodeO c' q) → TT tl H Q →
    ∃ t, PSs (cxOf (L2.CX X.prog X.w) X.prog X.w X.K X.mg X.base Ng x sg g cdg X.A X.stack s H fun _ _ _ => False) bg t ∧ t { nx := fun _ H' => Q .non H', rt := Q } (L2.start Ng [.ref f]) H
/-- x(lambda: body) -/
theorem pe_lamG {T : List (Addr × Str)} {TT : (XK → Hp → VK → Prop) → Hp → VK → Prop} {x a : Str} {g c P : Addr} {k : Nat} {pg : Arguments} {bg : List Stmt} {sg : Scope} {dV kV doc pm cdv ct oc : Value} {an od : Option Addr} {osl : Array (Option Value)} {Ng : List Str}
    {params : Arguments} {body : Expr} {scope : Scope} {t : XK → TE} {p lpos pos : Pos} {W : WX} (tkX : Takes X W) (hA : X.A.guards = some []) (hg : Gl X x) (hm : X.mg x = some (.ref g)) (hk : PySem.W.keepIn X.K (.ref g) = true)
    (lk : X.K.lookup g = some ⟨oc, od, .func (PySem.W.fnOf x x pg bg sg dV kV doc pm an cdv ct), osl⟩) (hcg : PySem.W.codeIn X.K cdv x = true) (hb : L2.Binds X.K (PySem.W.fnOf x x pg bg sg dV kV doc pm an cdv ct) [a] []) (Sg : FnScope Ng [a] sg) (hNg : Ng[0]? = some a) (hva : Vis sg a)
    (hG : GivesG X Ng x sg g cdv bg a (X.env.qual ++ "<lambda>") TT)
    (TB : TabB X.base X.mg c P) (hcode : X.env.code = .ref c) (hmT : (P, X.env.qual ++ "<lambda>") ∈ T) (hu : ∀ p ∈ T, p.1 = P → p.2 = X.env.qual ++ "<lambda>") (hr : Room (k + 2) X.A) (L : LamS X.env.scope scope) (hdef : defaultsOf params X.env = ([], []))
    (hbind : ∀ (q : Str) (cl : List (Str × Addr)) (pm cv ctv : Value), bindArgs (PySem.W.kla_fn "<lambda>" q params body scope cl pm cv ctv) ⟨[], []⟩ = pure [])
    (hbody : ∀ (A : Around) (outer : List PySem.Env) (s : Shared) (H : Hp) (E : XK) (f c' : Addr), A.guards = some [] → Room k (A.deeper (lamEnv X scope s.heap.objs.size f c')) → PE (lamCx X A outer s H E scope f c') body (t E))
    (hdb : (x == ("__debug__" : Str)) = false) (hd : (a == ("__debug__" : Str)) = false) (hcd : (a == ("__classdict__" : Str)) = false) :
    PE X (.Call (.Name x p) [.Lambda params body scope lpos] [] pos) (tLamG P T TT t) := by
  constructor
  rintro pins s σ H Q I ⟨hT, h⟩
  refine wpAny_Call_Name_kw (ld_glob I hg hm ?_ hdb)
  refine PySem.W.callWith_K (h₀ := X.base) I.ok.mod.kin hk ?_ (by rfl) (by rfl)
  show wpAny _ _ (spliced ((false, eval (.Lambda params body scope lpos) X.env) :: backTo pos (starEach [] X.env))) _ _ s
  refine Calls.spliced_cons (lam_makeG I TB hcode hmT hu hT hdef (L.has I.ok) ?_)
  intro f c' pm' ctv H1 s' I1 eN T1 hf hfn hfr hco
  refine Calls.spliced_nil ⟨I1.kIn, ?_⟩
  have rc : codeAny (model X.prog X.w) X.A (.call (.ref g) ⟨[.ref f], []⟩) (CR (L2.CX X.prog X.w) X.stack X.prog X.w H1 s' Q fun _ _ _ => False) s' := by
    refine run_ofS (N := Ng) (ps := [a]) (us := [.ref f]) (vs := [.ref f]) lk hcg Sg hr I1.env0 (hb s' [.ref f] I1.kIn rfl) (.cons rfl .nil) rfl fun hr' => ?_
    exact hG f c' s' H1 Q (fun E H' Q' => t E σ H' Q') (actG I1 hA L hf hfn hfr (hbind _ _ _ _ _) hr' (fun A outer s H E hA2 hr2 => hbody A outer s H E f c' hA2 hr2) hNg hva hd hcd) hco (h H1 eN T1)
  refine wpAny_call (codeAny_mono rc ?_)
  intro r s2 hq
  cases r with
  | error e => exact passes_call (E := fun _ _ _ => False) tkX (fun _ _ _ _ z => z.elim) _ _ _ _ _ _ I1 hq
  | ok fl =>
    cases fl with
    | ret u => exact I1.after hq
    | next => exact False.elim hq
    | brk => exact False.elim hq
    | cont => exact False.elim hq
end
/-- try: return (okS, a()) / except CS as n: return (badS, n.fld) -/
def TTas (K : PySem.W.Frag) (CS : Addr) (okS badS fld : Str) : (XK → Hp → VK → Prop) → Hp → VK → Prop := fun tl H Q =>
  tl (fun cls d H' => ∃ b, PySem.W.exmOne K cls (.ref CS) = some b ∧ (b = true → cls = .ref CS ∧ ∃ (dd : Addr) (fs : List (Str × V)) (v : V), d = some dd ∧ H' dd = some (.xd fs) ∧ fs.lookup fld = some v ∧ ∀ p, H' p = none → Q (.ref p) (upd H' p (.tup [.str badS, v]))) ∧ (b = false → False)) H
    fun v H' => [V.str okS, v].length ≤ sizeLine ∧ ∀ p, H' p = none → Q (.ref p) (upd H' p (.tup [.str okS, v]))
theorem as_gives {X : Cx} {Ng : List Str} {x a e n q okS badS fld : Str} {sg : Scope} {g CS : Addr} {cdg : Value} {j j2 k1 k2 : Nat} {p1 p2 p3 p4 p5 p6 p7 p8 p9 p10 p11 p12 p13 : Pos} (hnd : Ng.Nodup) (h1n : Ng[1]? = some n) (hln : sg.names.lookup n = some .local)
    (hge : sg.names.lookup e = some .globalImplicit) (hme : X.mg e = some (.ref CS)) (hde : (e == ("__debug__" : Str)) = false) (hdn : (n == ("__debug__" : Str)) = false) (hcn : (n == ("__classdict__" : Str)) = false) (h0 : ∀ f : Addr, (L2.start Ng [V.ref f])[0]? = some (some (V.ref f))) (h1 : ∀ f : Addr, 1 < (L2.start Ng [V.ref f]).length)
    (T : XfC X.K CS) (hno : PySem.W.findIn X.K (.ref CS) fld = some none) :
    GivesG X Ng x sg g cdg [.Try [.Return (some (.Tuple [.Constant (.str okS) j p1, .Call (.Name a p2) [] [] p3] k1 p4)) p5] [.ExceptHandler (some (.Name e p6)) (some n) [.Return (some (.Tuple [.Constant (.str badS) j2 p7, .Attribute (.Name n p8) fld p9] k2 p10)) p11] p12] [] [] p13] a q (TTas X.K CS okS badS fld) := by
  intro f c' s H Q tl act hc h
  have hgl : Gl (cxOf (L2.CX X.prog X.w) X.prog X.w X.K X.mg X.base Ng x sg g cdg X.A X.stack s H fun _ _ _ => False) e := hge
  refine ⟨_, pss_one (ps_try_as (X := cxOf (L2.CX X.prog X.w) X.prog X.w X.K X.mg X.base Ng x sg g cdg X.A X.stack s H fun _ _ _ => False) (i := 1) (n := n) (c := .ref CS) (Wout := fun _ _ _ _ => False)
      (tb := fun W D σ H => ∃ Ech : XK, (∀ cls d (σ' : L2.St) H', σ'.length = Ng.length → Ech cls d H' → W cls d σ' H') ∧ σ[0]? = some (some (.ref f)) ∧ H c' = some (CodeO c' q) ∧ tl Ech H fun v H' => [V.str okS, v].length ≤ sizeLine ∧ ∀ p, H' p = none → D.rt (.ref p) (upd H' p (.tup [.str okS, v])))
      rfl rfl hnd h1n hln ⟨hgl, hde, .inl hme⟩ LamX.takes0 (fun W pn xe tk _ => ?_) (fun a' oe cls d pn hz hf => pss_one (ps_ret (pe_tup (pa_cons pe_str (pa_cons (pe_xf T hno hz hf (pe_var (i := 1) h1n (.inl hln) hdn hcn)) pa_nil)))))), ?_⟩
  · refine ⟨fun pins s' σ H' D I h' => ?_⟩
    obtain ⟨Ech, hW, g1, g2, g3⟩ := h'
    have hp := act W pn xe Ech p2 p3 tk hW
    refine (pss_one (ps_ret (pos := p5) (pe_tup (x1 := k1) (pos := p4) (pa_cons (pe_str (x := okS) (j := j) (pos := p1)) (pa_cons hp pa_nil))))).run pins s' σ H' D I ?_
    exact ⟨g1, g2, g3⟩
  · refine ⟨_, fun cls d σ' H' hl hE => ?_, h0 f, hc, h⟩
    obtain ⟨b, e1, e2, e3⟩ := hE
    refine ⟨b, e1, fun hb a' ha' => ?_, fun hb => e3 hb⟩
    obtain ⟨rfl, dd, fs, v, rfl, hdd, hv, hq⟩ := e2 hb
    have hl1 : 1 < σ'.length := by
      rw [hl]
      exact (List.getElem?_eq_some_iff.mp h1n).1
    exact ⟨.ref a', List.getElem?_set_self hl1, rfl, rfl, dd, fs, v, rfl, hdd, hv, by show 2 ≤ sizeLine; decide, hq⟩
/-- try: return a() / except CS: return ret -/
theorem only_gives {X : Cx} {Ng : List Str} {x a e q ret : Str} {sg : Scope} {g CS : Addr} {cdg : Value} {j : Nat} {p1 p2 p3 p4 p5 p6 p7 p8 : Pos}
    (hge : sg.names.lookup e = some .globalImplicit) (hme : X.mg e = some (.ref CS)) (hde : (e == ("__debug__" : Str)) = false) (h0 : ∀ f : Addr, (L2.start Ng [V.ref f])[0]? = some (some (V.ref f))) :
    GivesG X Ng x sg g cdg [.Try [.Return (some (.Call (.Name a p1) [] [] p2)) p3] [.ExceptHandler (some (.Name e p4)) none [.Return (some (.Constant (.str ret) j p5)) p6] p7] [] [] p8] a q (TTold X.K CS ret) := by
  intro f c' s H Q tl act hc h
  have hgl : Gl (cxOf (L2.CX X.prog X.w) X.prog X.w X.K X.mg X.base Ng x sg g cdg X.A X.stack s H fun _ _ _ => False) e := hge
  refine ⟨_, pss_one (ps_try_only (X := cxOf (L2.CX X.prog X.w) X.prog X.w X.K X.mg X.base Ng x sg g cdg X.A X.stack s H fun _ _ _ => False) (c := .ref CS) (Wout := fun _ _ _ _ => False)
      (tb := fun W D σ H => ∃ Ech : XK, (∀ cls d (σ' : L2.St) H', σ'.length = Ng.length → Ech cls d H' → W cls d σ' H') ∧ σ[0]? = some (some (.ref f)) ∧ H c' = some (CodeO c' q) ∧ tl Ech H D.rt)
      rfl rfl ⟨hgl, hde, .inl hme⟩ LamX.takes0 (fun W pn xe tk _ => ?_) (fun a' oe cls d pn _ _ => pss_one (ps_ret pe_str))), ?_⟩
  · refine ⟨fun pins s' σ H' D I h' => ?_⟩
    obtain ⟨Ech, hW, g1, g2, g3⟩ := h'
    have hp := act W pn xe Ech p1 p2 tk hW
    exact (pss_one (ps_ret (pos := p3) hp)).run pins s' σ H' D I ⟨g1, g2, g3⟩
  · refine ⟨_, fun cls d σ' H' hl hE => ?_, h0 f, hc, h⟩
    obtain ⟨b, e1, e2, e3⟩ := hE
    exact ⟨b, e1, fun hb a' _ => e2 hb, fun hb => e3 hb⟩
end Tre
/-! Tre3: readings by the evaluator; operators. -/
namespace Tre
open PySem PySem.Spec PyProof.Rows L2

def RQ {α : Type} (r : R α) (P : α → Src → Prop) (W : Nat → List D → Src → Prop) : Prop := match r with
  | .ok a s => P a s
  | .exc c a s => W c a s
  | .stuck => False
theorem RQ.bind {α β : Type} {r : R α} {f : α → Src → R β} {P : β → Src → Prop} {W : Nat → List D → Src → Prop} (h : RQ (r.bind f) P W) : RQ r (fun a s => RQ (f a s) P W) W := by
  cases r <;> exact h
theorem RQ.unbind {α β : Type} {r : R α} {f : α → Src → R β} {P : β → Src → Prop} {W : Nat → List D → Src → Prop} (h : RQ r (fun a s => RQ (f a s) P W) W) : RQ (r.bind f) P W := by
  cases r <;> exact h
theorem RQ.mono {α : Type} {r : R α} {P P' : α → Src → Prop} {W W' : Nat → List D → Src → Prop} (h : RQ r P W) (m : ∀ a s, P a s → P' a s) (n : ∀ c a s, W c a s → W' c a s) : RQ r P' W' := by
  cases r with
  | ok a s => exact m a s h
  | exc c a s => exact n c a s h
  | stuck => exact h
theorem RQ.of {α : Type} {o : Option α} {s : Src} {P : α → Src → Prop} {W : Nat → List D → Src → Prop} (h : RQ (R.of o s) P W) : ∃ a, o = some a ∧ P a s := by
  cases o with
  | none => exact h.elim
  | some a => exact ⟨a, rfl, h⟩
theorem RQ.calm {α : Type} {r : R α} {P : α → Src → Prop} {W W' : Nat → List D → Src → Prop} (h : RQ r.calm P W) : RQ r P W' := by
  cases r with
  | ok a s => exact h
  | exc => exact h.elim
  | stuck => exact h
theorem _root_.L2.PE.weak {X : Cx} {e : Expr} {t t' : TE} (h : PE X e t) (m : ∀ σ H Q, t' σ H Q → t σ H Q) : PE X e t' := ⟨fun pins s σ H Q I q => h.run pins s σ H Q I (m σ H Q q)⟩
theorem _root_.L2.PT.weak {X : Cx} {e : Expr} {t t' : TT} (h : PT X e t) (m : ∀ σ H Q, t' σ H Q → t σ H Q) : PT X e t' := ⟨fun pins s σ H Q I q => h.run pins s σ H Q I (m σ H Q q)⟩
theorem _root_.L2.PA.weak {X : Cx} {e : List Expr} {t t' : TA} (h : PA X e t) (m : ∀ σ H Q, t' σ H Q → t σ H Q) : PA X e t' := ⟨fun pos pins s σ H Q I q => h.run pos pins s σ H Q I (m σ H Q q)⟩

/-- how an exception stands: its class, its own dict -/
abbrev XT := Nat → Option (Addr × List Str)
def XR (K : PySem.W.Frag) (Xn : XT) (H : Hp) (c : Nat) (a : List D) (cls : Value) (d : Option Addr) : Prop :=
  ∃ C fs, Xn c = some (C, fs) ∧ cls = .ref C ∧ ((fs = [] ∧ a = []) ∨ ∃ dd vs, d = some dd ∧ H dd = some (.xd (fs.zip vs)) ∧ fs.length = vs.length ∧ RpA K (fun _ => none) vs a)

/-- what is fixed while a def runs -/
structure Cf where
  Φ : Nat → List Arg → Src → R (Bool × D)
  G : Nat → Option D
  Xn : XT
  /-- exception classes by their names, how many values each takes -/
  xcs : List (Str × Nat)
  /-- tables of code objects that change -/
  ts : List (Addr × Str)
  /-- defs that catch: the name, the class, the two words -/
  tds : List (Str × Nat × Option Str × Str)
structure Bx where
  S : SA
  O0 : Addr → Prop
  H0 : Hp
abbrev Bx.Rl (B : Bx) (K : PySem.W.Frag) (O : Addr → Prop) (env : Env) (σ : L2.St) (H : Hp) : Prop := Tre.Rl K B.S B.O0 B.H0 O env σ H

section
variable (C : Cf) (K : PySem.W.Frag) (B : Bx) (W : WX)
/-- what is wanted of an exception -/
def wX (σ : L2.St) (H : Hp) : Nat → List D → Src → Prop := fun c a s' => ∀ H' cls d, Ex B.S H H' → SrcR B.S H' s' → XR K C.Xn H' c a cls d → W cls d σ H'
def tE (t : T) : TE := fun σ H Q => ∃ env s O, B.Rl K O env σ H ∧ SrcR B.S H s ∧ RQ (evE C.Φ C.G t env s) (fun x s' =>
  ∀ v H', Ex B.S H H' → SrcR B.S H' s' → VR K B.S O H H' x.1 v x.2 → Q v H') (wX C K B W σ H)
def tT (t : T) : TT := fun σ H Q => ∃ env s O, B.Rl K O env σ H ∧ SrcR B.S H s ∧ RQ (evE C.Φ C.G t env s) (fun x s' =>
  ∀ H', Ex B.S H H' → SrcR B.S H' s' → Q (truth x.2) H') (wX C K B W σ H)
/-- rows of values -/
def VRs (K : PySem.W.Frag) (S : SA) (O : Addr → Prop) (Ha H : Hp) : List V → List (Kd × D) → Prop
  | [], [] => True
  | v :: vs, x :: xs => VR K S O Ha H x.1 v x.2 ∧ VRs K S O Ha H vs xs
  | _, _ => False
def tA (t : T) : TA := fun σ H Q => ∃ env s O, B.Rl K O env σ H ∧ SrcR B.S H s ∧ RQ (evA C.Φ C.G t env s) (fun xs s' =>
  ∀ vs H', Ex B.S H H' → SrcR B.S H' s' → VRs K B.S O H H' vs xs → Q vs H') (wX C K B W σ H)
/-- an argument -/
def AR (K : PySem.W.Frag) (S : SA) (O : Addr → Prop) (H : Hp) : List V → List Arg → Prop
  | [], [] => True
  | v :: vs, .d x :: xs => Rp K (hide H O) v x ∧ AR K S O H vs xs
  | v :: vs, .src :: xs => v = .ref S.a1 ∧ AR K S O H vs xs
  | _, _ => False
def tG (t : T) : TA := fun σ H Q => ∃ env s O, B.Rl K O env σ H ∧ SrcR B.S H s ∧ RQ (evG C.Φ C.G t env s) (fun xs s' =>
  ∀ vs H', Ex B.S H H' → SrcR B.S H' s' → AR K B.S O H' vs xs → (∀ a, O a → H' a ≠ none) → (∀ b, B.S.Out b → O b) → Q vs H') (wX C K B W σ H)
def tO (t : T) : TO := fun σ H Q => ∃ env s O, B.Rl K O env σ H ∧ SrcR B.S H s ∧ RQ (evO C.Φ C.G t env s) (fun x s' =>
  ∀ H', Ex B.S H H' → SrcR B.S H' s' → Q x H') (wX C K B W σ H)
end

section
variable {C : Cf} {K : PySem.W.Frag} {B : Bx} {W : WX} {O : Addr → Prop} {H : Hp} {env : Env} {σ : L2.St} {s : Src}
theorem wX.ext {H1 : Hp} {s1 : Src} (e : Ex B.S H H1) {c : Nat} {a : List D} {s' : Src} (h : wX C K B W σ H c a s') : wX C K B W σ H1 c a s' := fun H' cls d e' q x => h H' cls d (e.trans e') q x
theorem eOne {a : T} {P : V → Hp → Prop} (r : B.Rl K O env σ H) (q : SrcR B.S H s)
    (h : RQ (evE C.Φ C.G a env s) (fun x s1 => ∀ u H1, Ex B.S H H1 → SrcR B.S H1 s1 → VR K B.S O H H1 x.1 u x.2 → P u H1) (wX C K B W σ H)) : tE C K B W a σ H P := ⟨env, s, O, r, q, h⟩
theorem eTwo {a b : T} {P : V → V → Hp → Prop} (r : B.Rl K O env σ H) (q : SrcR B.S H s)
    (h : RQ (evE C.Φ C.G a env s) (fun x s1 => RQ (evE C.Φ C.G b env s1) (fun y s2 => ∀ u w H2, Ex B.S H H2 → SrcR B.S H2 s2 → VR K B.S O H H2 x.1 u x.2 → VR K B.S O H H2 y.1 w y.2 → P u w H2) (wX C K B W σ H)) (wX C K B W σ H)) :
    tE C K B W a σ H fun u H1 => tE C K B W b σ H1 fun w H2 => P u w H2 := by
  refine ⟨env, s, O, r, q, h.mono (fun x s1 h1 => ?_) fun _ _ _ z => z⟩
  intro u H1 e1 q1 v1
  exact ⟨env, s1, O, r.ext e1 q1, q1, h1.mono (fun y s2 h2 w H2 e2 q2 v2 => h2 u w H2 (e1.trans e2) q2 (v1.ext r e1 q1 e2 q2) (v2.back e1 q1)) fun c a s' z => wX.ext (s1 := s1) e1 z⟩
theorem VRs.ext {H1 H' : Hp} {s1 s' : Src} (r : B.Rl K O env σ H) : ∀ {vs : List V} {xs : List (Kd × D)}, VRs K B.S O H H1 vs xs → Ex B.S H H1 → SrcR B.S H1 s1 → Ex B.S H1 H' → SrcR B.S H' s' → VRs K B.S O H H' vs xs
  | [], [], _, _, _, _, _ => trivial
  | v :: vs, x :: xs, h, e0, q1, e, q => ⟨h.1.ext r e0 q1 e q, VRs.ext r h.2 e0 q1 e q⟩
theorem VRs.back {S : SA} {H1 H' : Hp} {s1 : Src} : ∀ {vs : List V} {xs : List (Kd × D)}, VRs K S O H1 H' vs xs → Ex S H H1 → SrcR S H1 s1 → VRs K S O H H' vs xs
  | [], [], _, _, _ => trivial
  | v :: vs, x :: xs, h, e0, q1 => ⟨h.1.back e0 q1, VRs.back h.2 e0 q1⟩
theorem AR.ext {S : SA} {H1 H' : Hp} (e : Same (hide H1 O) (hide H' O)) : ∀ {vs : List V} {xs : List Arg}, AR K S O H1 vs xs → AR K S O H' vs xs
  | [], [], _ => trivial
  | v :: vs, .d x :: xs, h => ⟨h.1.mono e, AR.ext e h.2⟩
  | v :: vs, .src :: xs, h => ⟨h.1, AR.ext e h.2⟩
end

section
variable {K : PySem.W.Frag} {S : SA} {O : Addr → Prop} {H : Hp}
/-! ### a new object -/
theorem hide_new {p : Addr} {o : HO} (hO : ∀ a, O a → H a ≠ none) (hp : H p = none) : Same (hide H O) (hide (upd H p o) O) :=
  hide_same (fun a x _ e => same_new hp a x e) fun a z n => absurd z n
theorem hide_new2 {p : Addr} {o : HO} (hO : ∀ a, O a → H a ≠ none) (hp : H p = none) : Same (hide H O) (hide (upd H p o) fun b => O b ∨ b = p) :=
  hide_same (fun a x _ e => same_new hp a x e) fun a z n => z.elim (fun z => absurd z n) fun z => by subst z; exact hp
theorem new_tup {p : Addr} {vs : List V} {ds : List D} (hO : ∀ a, O a → H a ≠ none) (hp : H p = none) (h : RpA K (hide H O) vs ds) : VR K S O H (upd H p (.tup vs)) .frz (.ref p) (.tuple ds) := by
  refine Rp.tup (.inl (.inl ?_)) (h.mono (hide_new hO hp))
  rw [hide_out (fun z => hO p z hp)]
  exact upd_same
theorem new_lst {p : Addr} {vs : List V} {ds : List D} (hO : ∀ a, O a → H a ≠ none) (hp : H p = none) (h : RpA K (hide H O) vs ds) : VR K S O H (upd H p (.lst vs)) .own (.ref p) (.list ds) :=
  ⟨p, vs, ds, rfl, rfl, hp, upd_same, h.mono (hide_new2 hO hp)⟩
theorem new_lstF {p : Addr} {vs : List V} {ds : List D} (hO : ∀ a, O a → H a ≠ none) (hp : H p = none) (h : RpA K (hide H O) vs ds) : VR K S O H (upd H p (.lst vs)) .frz (.ref p) (.list ds) := by
  refine Rp.lst ?_ (h.mono (hide_new hO hp))
  rw [hide_out (fun z => hO p z hp)]
  exact upd_same
end

/-- by values: two values go in, the evaluator's worth comes out -/
def rV2 (K : PySem.W.Frag) (S : SA) (f : D → D → Option (Kd × D)) : R2 := fun u w H Q => ∃ (O : Addr → Prop) (Ha : Hp) (k1 k2 : Kd) (x y : D) (k : Kd) (z : D), (∀ a, O a → H a ≠ none) ∧ VR K S O Ha H k1 u x ∧ VR K S O Ha H k2 w y ∧ f x y = some (k, z) ∧
  ∀ v H', Same H H' → VR K S O H H' k v z → Q v H'
theorem VR.scal {K : PySem.W.Frag} {S : SA} {O : Addr → Prop} {Ha H : Hp} : VR K S O Ha H .frz .non .none := Rp.non

section
variable {X : Cx} {S : SA}
theorem rV2.of {f g : D → D → Option (Kd × D)} {u w : V} {H : Hp} {Q : VK} (h : rV2 X.K S f u w H Q) (e : ∀ x y, f x y = g x y) : rV2 X.K S g u w H Q := by
  obtain ⟨O, Ha, k1, k2, x, y, k, z, a, b, c, d, q⟩ := h
  exact ⟨O, Ha, k1, k2, x, y, k, z, a, b, c, (e x y) ▸ d, q⟩
theorem str_app_ok {a b : Str} (h1 : PyData.strOk a = true) (h2 : PyData.strOk b = true) : PyData.strOk (a ++ b) = true := by
  unfold PyData.strOk at *
  show (a.cps ++ b.cps).all _ = true
  rw [Array.all_append, h1, h2] <;> rfl
theorem str_len_app (a b : Str) : (a ++ b).length = a.length + b.length := by
  show (a.cps ++ b.cps).size = _
  exact Array.size_append
theorem cmul_of {i j : Int} (h : cmulB i j = true) : CMul i j := by
  unfold cmulB at h
  simp only [Bool.or_eq_true, Bool.and_eq_true, decide_eq_true_eq] at h
  exact h
theorem foldl_cat : ∀ (l : List (Array Nat)) (b : Array Nat), (l.foldl (· ++ ·) b).toList = b.toList ++ (l.map Array.toList).flatten
  | [], b => by simp
  | x :: l, b => by rw [List.foldl_cons, foldl_cat l, Array.toList_append, List.map_cons, List.flatten_cons, List.append_assoc]
theorem mul_tl {x : Str} {k : Int} (h : 2 ≤ k) : (Txt.mul x k).cps.toList = (List.replicate k.toNat x.cps.toList).flatten := by
  unfold Txt.mul
  rw [if_neg (by omega)]
  split
  · rename_i c
    simp only [Bool.or_eq_true, beq_iff_eq] at c
    rcases c with c | c
    · omega
    · have : x.cps.toList = [] := List.eq_nil_of_length_eq_zero (by rw [Array.length_toList]; exact c)
      rw [this]
      simp
  · show (List.foldl (· ++ ·) #[] (List.replicate k.toNat x.cps)).toList = _
    rw [foldl_cat, List.map_replicate]
    simp
theorem mul_len {x : Str} {k : Int} (h : 2 ≤ k) : (Txt.mul x k).length = k.toNat * x.length := by
  show (Txt.mul x k).cps.size = _
  rw [← Array.length_toList, mul_tl h, List.length_flatten, List.map_replicate, List.sum_replicate_nat, Array.length_toList]
  rfl
theorem mul_ok {x : Str} {k : Int} (h : 2 ≤ k) (g : PyData.strOk x = true) : PyData.strOk (Txt.mul x k) = true := by
  unfold PyData.strOk at *
  rw [← Array.all_toList, List.all_eq_true] at *
  intro c hc
  rw [mul_tl h] at hc
  obtain ⟨l, hl, hc⟩ := List.mem_flatten.mp hc
  obtain rfl := (List.mem_replicate.mp hl).2
  exact g c hc
theorem op_ok (o : Operator) : OpR X (binaryOp o) (rV2 X.K S (opF o)) := by
  intro pins s σ H u w vu vw Q I ru rw' h
  obtain ⟨O, Ha, k1, k2, x, y, k, z, hO, hx, hy, e, q⟩ := h
  unfold opF at e
  split at e
  · cases e
    obtain rfl := hx.int; obtain rfl := hy.int
    exact op_add pins s σ H _ _ vu vw Q I ru rw' ⟨_, _, rfl, rfl, q _ _ (Same.refl _) (Rp.int _)⟩
  · split at e <;> cases e
    obtain ⟨rfl, l1, l2⟩ := hx.str; obtain ⟨rfl, m1, m2⟩ := hy.str
    refine op_add_str pins s σ H _ _ vu vw Q I ru rw' ⟨_, _, rfl, rfl, by assumption, q _ _ (Same.refl _) (Rp.str _ ?_ (str_app_ok l2 m2))⟩
    rw [str_len_app]; assumption
  · split at e <;> cases e
    obtain ⟨a, vs, rfl, ea, ra⟩ := hx.list; obtain ⟨b, ws, rfl, eb, rb⟩ := hy.list
    refine op_cat pins s σ H _ _ vu vw Q I ru rw' ⟨_, _, _, _, rfl, rfl, ea, eb, ?_, fun p hp => q _ _ (same_new hp) (new_lst hO hp (ra.app rb))⟩
    rw [ra.len, rb.len]; assumption
  · split at e <;> cases e
    have fx := hx.tupleF
    have fy := hy.tupleF
    obtain ⟨a, vs, rfl, ea, ra⟩ := hx.tuple; obtain ⟨b, ws, rfl, eb, rb⟩ := hy.tuple
    refine op_catA pins s σ H _ _ vu vw Q I ru rw' ⟨_, _, _, _, rfl, rfl, ea, eb, ?_, fun n => ?_, fun _ n => ?_, fun _ _ p hp => q _ _ (same_new hp) (new_tup hO hp (ra.app rb))⟩
    · rw [ra.len, rb.len]; assumption
    · subst n; cases ra; exact q _ _ (Same.refl _) fy
    · subst n; cases rb
      rw [List.append_nil] at q
      exact q _ _ (Same.refl _) fx
  · cases e
    obtain rfl := hx.int; obtain rfl := hy.int
    exact op_sub pins s σ H _ _ vu vw Q I ru rw' ⟨_, _, rfl, rfl, q _ _ (Same.refl _) (Rp.int _)⟩
  · split at e <;> cases e
    obtain rfl := hx.int; obtain rfl := hy.int
    exact op_mul pins s σ H _ _ vu vw Q I ru rw' ⟨_, _, rfl, rfl, cmul_of (by assumption), q _ _ (Same.refl _) (Rp.int _)⟩
  · split at e <;> cases e
    rename_i hz
    obtain ⟨a, vs, rfl, ea, ra⟩ := hx.list; obtain rfl := hy.int
    exact op_rep pins s σ H _ _ vu vw Q I ru rw' ⟨_, _, _, rfl, rfl, ea, hz.1, hz.2.1, by rw [ra.len]; exact hz.2.2, fun p hp => q _ _ (same_new hp) (new_lst hO hp (ra.rep _))⟩
  · split at e <;> cases e
    rename_i xs kk hz
    have fx := hx.tupleF
    obtain ⟨a, vs, rfl, ea, ra⟩ := hx.tuple; obtain rfl := hy.int
    refine op_repA pins s σ H _ _ vu vw Q I ru rw' ⟨_, _, _, rfl, rfl, ea, hz.1, hz.2.1, by rw [ra.len]; exact hz.2.2, fun n => ?_, fun _ _ p hp => q _ _ (same_new hp) (new_tup hO hp (ra.rep _))⟩
    have e1 : (List.replicate kk.toNat xs).flatten = xs := by
      rcases n with n | n
      · subst n
        show (List.replicate 1 xs).flatten = xs
        simp
      · subst n
        cases ra
        simp
    rw [e1] at q
    exact q _ _ (Same.refl _) fx
  · split at e <;> cases e
    rename_i xx kk hz
    obtain ⟨rfl, l1, l2⟩ := hx.str; obtain rfl := hy.int
    obtain ⟨tx, rfl⟩ := ru
    obtain ⟨ty, rfl⟩ := rw'
    refine SB.mul ?_ fun t' k => ⟨.str (Txt.mul xx kk), H, I.tok _, ⟨_, rfl⟩, q _ _ (Same.refl _) (Rp.str _ ?_ (mul_ok hz.1 l2))⟩
    · have e1 : xx.length * kk.toNat ≤ 1000 * 1000 := Nat.mul_le_mul hz.2.2.1 (by omega)
      refine ⟨by simp only [Bool.or_eq_false_iff, decide_eq_false_iff_not]; omega, fun _ _ => ?_, fun _ _ => ?_⟩
      · have : (1000 : Int) ≤ (2 ^ 63 - 1) / kk := Int.le_ediv_of_mul_le (by omega) (by omega)
        omega
      · show decide (_ > sizeLine) = false
        rw [decide_eq_false_iff_not, sizeLine_eq]
        omega
    · rw [mul_len hz.1]
      have e1 : kk.toNat * xx.length ≤ 1000 * 1000 := Nat.mul_le_mul (by omega) hz.2.2.1
      rw [sizeLine_eq]; omega
  · split at e <;> cases e
    obtain rfl := hx.int; obtain rfl := hy.int
    exact op_fdiv pins s σ H _ _ vu vw Q I ru rw' ⟨_, _, rfl, rfl, by assumption, q _ _ (Same.refl _) (Rp.int _)⟩
  · split at e <;> cases e
    obtain rfl := hx.int; obtain rfl := hy.int
    exact op_mod pins s σ H _ _ vu vw Q I ru rw' ⟨_, _, rfl, rfl, by assumption, q _ _ (Same.refl _) (Rp.int _)⟩
  · split at e <;> cases e
    obtain rfl := hx.int; obtain rfl := hy.int
    exact op_pow pins s σ H _ _ vu vw Q I ru rw' ⟨_, _, rfl, rfl, by assumption, q _ _ (Same.refl _) (Rp.int _)⟩
  · cases e

/-! ### comparisons -/
def rC2 (K : PySem.W.Frag) (S : SA) (f : D → D → Option Bool) : R2 := fun u w H Q => ∃ (O : Addr → Prop) (Ha : Hp) (k1 k2 : Kd) (x y : D) (b : Bool), VR K S O Ha H k1 u x ∧ VR K S O Ha H k2 w y ∧ f x y = some b ∧ Q (.bl b) H
theorem isNon_of {K : PySem.W.Frag} {H : Hp} {u : V} {x : D} (h : Rp K H u x) : decide (u = .non) = isNoneD x := by cases h <;> rfl
theorem cmp_ok (hu : X.A.units + 200 < cLine) (o : CmpOp) : OpR X (compareOp o) (rC2 X.K S (cmpF o)) := by
  intro pins s σ H u w vu vw Q I ru rw' h
  obtain ⟨O, Ha, k1, k2, x, y, b, hx, hy, e, q⟩ := h
  have hx := hx.rp
  have hy := hy.rp
  have big : ∀ n : Nat, n ≤ 64 → X.A.units + 1 + n < cLine := fun n h => by omega
  cases o with
  | Eq =>
    replace e : eqF x y = some b := e
    unfold eqF at e
    split at e <;> cases e
    obtain ⟨as, r1⟩ := Dp.reads I x u vu hx.dp ru
    obtain ⟨bs, r2⟩ := Dp.reads I y w vw hy.dp rw'
    refine SeqAt.compareEq_reads r1 r2 hx.lay hy.lay ?_ ⟨.bl _, H, I, rfl, q⟩
    have := big _ (by assumption)
    show X.A.units + Nat.min x.depth y.depth < cLine
    omega
  | NotEq =>
    replace e : (eqF x y).map (!·) = some b := e
    unfold eqF at e
    split at e <;> cases e
    obtain ⟨as, r1⟩ := Dp.reads I x u vu hx.dp ru
    obtain ⟨bs, r2⟩ := Dp.reads I y w vw hy.dp rw'
    refine SeqAt.compareNe_reads r1 r2 hx.lay hy.lay ?_ ⟨.bl _, H, I, rfl, q⟩
    have := big _ (by assumption)
    show X.A.units + Nat.min x.depth y.depth < cLine
    omega
  | Lt =>
    replace e : i2F (fun i j => decide (i < j)) x y = some b := e
    unfold i2F at e
    split at e <;> cases e
    cases hx; cases hy
    exact op_lt pins s σ H _ _ vu vw Q I ru rw' ⟨_, _, rfl, rfl, q⟩
  | LtE =>
    replace e : i2F (fun i j => decide (i ≤ j)) x y = some b := e
    unfold i2F at e
    split at e <;> cases e
    cases hx; cases hy
    exact op_le pins s σ H _ _ vu vw Q I ru rw' ⟨_, _, rfl, rfl, q⟩
  | Gt =>
    replace e : i2F (fun i j => decide (j < i)) x y = some b := e
    unfold i2F at e
    split at e <;> cases e
    cases hx; cases hy
    exact op_gt pins s σ H _ _ vu vw Q I ru rw' ⟨_, _, rfl, rfl, q⟩
  | GtE =>
    replace e : i2F (fun i j => decide (j ≤ i)) x y = some b := e
    unfold i2F at e
    split at e <;> cases e
    cases hx; cases hy
    exact op_ge pins s σ H _ _ vu vw Q I ru rw' ⟨_, _, rfl, rfl, q⟩
  | Is =>
    replace e : isF x y = some b := e
    unfold isF at e
    split at e <;> cases e
    rw [← isNon_of hx] at q
    cases hy
    exact op_isN pins s σ H _ _ vu vw Q I ru rw' ⟨rfl, q⟩
  | IsNot =>
    replace e : (isF x y).map (!·) = some b := e
    unfold isF at e
    split at e <;> cases e
    rw [← isNon_of hx] at q
    cases hy
    exact op_notN pins s σ H _ _ vu vw Q I ru rw' ⟨rfl, q⟩
  | In =>
    replace e : inF x y = some b := e
    unfold inF at e
    split at e
    · split at e <;> cases e
      obtain ⟨as, r1⟩ := Dp.reads I x u vu hx.dp ru
      obtain ⟨bs, r2⟩ := Dp.reads I _ w vw hy.dp rw'
      refine SeqAt.in_list_reads r2 r1 ?_ hx.lay (big _ (by assumption)) ⟨.bl _, H, I, rfl, q⟩
      simpa only [PyData.canLay0] using hy.lay
    · split at e <;> cases e
      obtain ⟨as, r1⟩ := Dp.reads I x u vu hx.dp ru
      obtain ⟨bs, r2⟩ := Dp.reads I _ w vw hy.dp rw'
      refine SeqAt.in_tuple_reads r2 r1 ?_ hx.lay (big _ (by assumption)) ⟨.bl _, H, I, rfl, q⟩
      simpa only [PyData.canLay0] using hy.lay
    · split at e <;> cases e
      cases hx; cases hy
      exact op_in_str pins s σ H _ _ vu vw Q I ru rw' ⟨_, _, rfl, rfl, q⟩
    · cases e
  | NotIn =>
    replace e : (inF x y).map (!·) = some b := e
    unfold inF at e
    split at e
    · split at e <;> cases e
      obtain ⟨as, r1⟩ := Dp.reads I x u vu hx.dp ru
      obtain ⟨bs, r2⟩ := Dp.reads I _ w vw hy.dp rw'
      refine SeqAt.notIn_list_reads r2 r1 ?_ hx.lay (big _ (by assumption)) ⟨.bl _, H, I, rfl, q⟩
      simpa only [PyData.canLay0] using hy.lay
    · split at e <;> cases e
      obtain ⟨as, r1⟩ := Dp.reads I x u vu hx.dp ru
      obtain ⟨bs, r2⟩ := Dp.reads I _ w vw hy.dp rw'
      refine SeqAt.notIn_tuple_reads r2 r1 ?_ hx.lay (big _ (by assumption)) ⟨.bl _, H, I, rfl, q⟩
      simpa only [PyData.canLay0] using hy.lay
    · split at e <;> cases e
      cases hx; cases hy
      exact op_notin_str pins s σ H _ _ vu vw Q I ru rw' ⟨_, _, rfl, rfl, q⟩
    · cases e
end
end Tre
/-! Tre4: defs that are called where no guard runs; built-ins by values. -/
namespace Tre
open PySem PySem.Spec PyProof.Rows L2

/-- as FnOk, where no guard is on the stack -/
structure FnG (P : Program) (w : World) (K : PySem.W.Frag) (mg : Str → Option Value) (base : Heap) (CX : CXT) (k : Nat) (f : Addr) (fd : FuncData) (ps : List Str) (sp : Sp) : Prop where
  len : ∀ vs H Q E, sp vs H Q E → vs.length = ps.length
  run : ∀ (A : Around), A.guards = some [] → ∀ (outer : List PySem.Env) (s : Shared) (H : Hp) (args : Args) (us : List Value) (vs : List V) (Q : VK) (E : XK), Room k A → Env0 P w K mg base A outer s H → BindsTo s fd args (ps.zip us) → Vals vs us →
    sp vs H Q E → codeAny (model P w) A (.call (.ref f) args) (CR CX outer P w H s Q E) s
theorem FnG.of {P : Program} {w : World} {K : PySem.W.Frag} {mg : Str → Option Value} {base : Heap} {CX : CXT} {k : Nat} {f : Addr} {fd : FuncData} {ps : List Str} {sp : Sp} (F : FnOk P w K mg base CX k f fd ps sp) : FnG P w K mg base CX k f fd ps sp :=
  ⟨F.len, fun A _ => F.run A⟩
theorem FnG.mono {P : Program} {w : World} {K : PySem.W.Frag} {mg : Str → Option Value} {base : Heap} {CX : CXT} {j k : Nat} {f : Addr} {fd : FuncData} {ps : List Str} {sp : Sp} (F : FnG P w K mg base CX j f fd ps sp) (h : j ≤ k) :
    FnG P w K mg base CX k f fd ps sp := ⟨F.len, fun A hA outer s H args us vs Q E hr => F.run A hA outer s H args us vs Q E (hr.mono h)⟩

section
variable {X : Cx} {CX : CXT} {k : Nat} {f : Addr} {fd : FuncData} {ps : List Str} {sp : Sp} {E : L2.St → XK} {x : Str} {p pos : Pos} {e : Expr} {es : List Expr} {t : TA}
theorem callG {pins : List (Addr × Obj)} {σ : L2.St} {H : Hp} {s : Shared} {Q : VK} {us : List Value} {vs : List V} (F : FnG X.prog X.w X.K X.mg X.base CX k f fd ps sp) (hA : X.A.guards = some []) (hr : Room k X.A) (hb : Binds X.K fd ps []) (hx : PassesAt CX X σ (E σ))
    (I : Inv X pins σ H s) (r : Vals vs us) (h : sp vs H Q (E σ)) : wpAny (model X.prog X.w) X.A (call (.ref f) us) (EP X pins σ Q) X.xe s := by
  have hl : (us ++ []).length = ps.length := by rw [List.append_nil, ← r.length]; exact F.len _ _ _ _ h
  have hb' := hb s us I.kIn hl
  rw [List.append_nil] at hb'
  refine wpAny_call (codeAny_mono (F.run X.A hA X.stack s H ⟨us, []⟩ us vs Q (E σ) hr I.env0 hb' r h) ?_)
  intro res s' hq
  cases res with
  | error e => exact hx pins H s e s' I hq
  | ok fl =>
    cases fl with
    | ret u => exact I.after hq
    | next => exact hq.elim
    | brk => exact hq.elim
    | cont => exact hq.elim
theorem pe_callG (F : FnG X.prog X.w X.K X.mg X.base CX k f fd ps sp) (hA : X.A.guards = some []) (hr : Room k X.A) (hg : Gl X x) (hm : X.mg x = some (.ref f)) (hk : PySem.W.keepIn X.K (.ref f) = true) (hb : Binds X.K fd ps []) (hx : ∀ σ, PassesAt CX X σ (E σ))
    (ha : PA X (e :: es) t) (hdb : (x == ("__debug__" : Str)) = false) (he : starEach (e :: es) X.env = (false, eval e X.env) :: starEach es X.env) (hpl : (backTo pos (starEach es X.env)).any (·.1) = false) :
    PE X (.Call (.Name x p) (e :: es) [] pos) (fun σ H Q => t σ H fun vs H1 => sp vs H1 Q (E σ)) := by
  constructor
  intro pins s σ H Q I h
  refine wpAny_Call_Name_kw (ld_glob I hg hm ?_ hdb)
  refine PySem.W.callWith_K (h₀ := X.base) I.ok.mod.kin hk ?_ he hpl
  refine thn (ha.run pos pins s σ H _ I h) ?_
  rintro us s1 ⟨vs, H1, I1, r, q⟩
  exact ⟨I1.kIn, callG F hA hr hb (hx σ) I1 r q⟩
theorem pe_callG0 (F : FnG X.prog X.w X.K X.mg X.base CX k f fd ps sp) (hA : X.A.guards = some []) (hr : Room k X.A) (hg : Gl X x) (hm : X.mg x = some (.ref f)) (hk : PySem.W.keepIn X.K (.ref f) = true) (hb : Binds X.K fd ps []) (hx : ∀ σ, PassesAt CX X σ (E σ))
    (hdb : (x == ("__debug__" : Str)) = false) : PE X (.Call (.Name x p) [] [] pos) (fun σ H Q => sp [] H Q (E σ)) := by
  constructor
  intro pins s σ H Q I h
  refine wpAny_Call_Name_kw (ld_glob I hg hm ?_ hdb)
  exact PySem.W.callWith_K0 I.kIn hk (callG (us := []) F hA hr hb (hx σ) I .nil h)
end

/-- a def by its body -/
theorem fnG_of {CX : CXT} {P : Program} {w : World} {K : PySem.W.Frag} {mg : Str → Option Value} {base : Heap} {k : Nat} {f : Addr} {name qual : Str} {params : Arguments} {body : List Stmt} {scope : Scope} {dV kV doc pm cdv ct oc : Value} {an od : Option Addr}
    {osl : Array (Option Value)} {N ps : List Str} {sp : Sp} (lk : K.lookup f = some ⟨oc, od, .func (PySem.W.fnOf name qual params body scope dV kV doc pm an cdv ct), osl⟩) (hcd : PySem.W.codeIn K cdv qual = true) (S : FnScope N ps scope)
    (len : ∀ vs H Q E, sp vs H Q E → vs.length = ps.length)
    (hbody : ∀ (A : Around) (outer : List PySem.Env) (s : Shared) (H : Hp) (vs : List V) (Q : VK) (E : XK), A.guards = some [] → Room k (A.deeper (envOfC qual scope s.heap.objs.size f cdv)) → sp vs H Q E →
      ∃ t, PSs (cxOf CX P w K mg base N qual scope f cdv A outer s H E) body t ∧ t { nx := fun _ H' => Q .non H', rt := Q } (start N vs) H) :
    FnG P w K mg base CX (k + 1) f (PySem.W.fnOf name qual params body scope dV kV doc pm an cdv ct) ps sp := by
  constructor
  · exact len
  intro A hA outer s H args us vs Q E hr e0 hb r hsp
  have kin : K.In s.heap := e0.mod.kin.keeps fun b o e => (e0.bs b o e).1
  have lim : s.heap.NoLimit := e0.mod.nolimit.keeps fun b o e => (e0.bs b o e).1
  refine codeAny_call_function hr.depth (kin _ _ lk) rfl S.co S.gen rfl (PySem.W.codeRec_of kin hcd) (hb _ _ _ _ ?_)
  have hkind : ∀ y ∈ ps.zip us, scope.names.lookup y.1 = some .local ∨ (scope.names.lookup y.1 = some .cell ∧ ((cellsFrom (s.heap.objs.size + 1) scope.names []).lookup y.1).isSome = true) := by
    rintro ⟨n, v⟩ hy
    cases S.par n (List.of_mem_zip hy).1 with
    | inl q => exact Or.inl q
    | inr q => exact Or.inr ⟨q, PySem.W.cellsFrom_some _ _ _ (Or.inl q)⟩
  refine wpAny_newFunctionEnv_cells S.kind hkind ?_
  intro env he s1 x
  subst he
  refine ⟨lim.keeps x.toInCall.keep, codeAny_func ?_⟩
  obtain ⟨t, ht, hq⟩ := hbody A outer s H vs Q E hA (hr.deeper _) hsp
  have I0 : Inv (cxOf CX P w K mg base N qual scope f cdv A outer s H E) [] (start N vs) H s1 := inv_start S hr.hd e0 (len _ _ _ _ hsp) r x
  refine wpAny_mono (ht.run [] s1 (start N vs) H _ I0 hq) ?_ (fun e s' hs => hs)
  intro fl s' hs
  cases fl with
  | ret u =>
    obtain ⟨v, σ', H', J, rv, q⟩ := hs
    exact ⟨v, H', J.os, J.bare, J.base, J.hok, rv, q⟩
  | next =>
    obtain ⟨σ', H', J, q⟩ := hs
    exact ⟨V.non, H', J.os, J.bare, J.base, J.hok, rfl, q⟩
  | brk =>
    obtain ⟨_, _, _, q⟩ := hs
    exact q.elim
  | cont =>
    obtain ⟨_, _, _, q⟩ := hs
    exact q.elim

/-! ### built-ins by values -/
def rVn (K : PySem.W.Frag) (S : SA) (f : List D → Option (Kd × D)) : List V → Hp → VK → Prop := fun us H Q => ∃ (O : Addr → Prop) (Ha : Hp) (xs : List (Kd × D)) (k : Kd) (z : D), (∀ a, O a → H a ≠ none) ∧ VRs K S O Ha H us xs ∧ f (xs.map (·.2)) = some (k, z) ∧
  ∀ v H', Same H H' → VR K S O H H' k v z → Q v H'
theorem vrs1 {K : PySem.W.Frag} {S : SA} {O : Addr → Prop} {Ha H : Hp} {us : List V} {xs : List (Kd × D)} {d : D} (h : VRs K S O Ha H us xs) (e : xs.map (·.2) = [d]) : ∃ u k, us = [u] ∧ VR K S O Ha H k u d := by
  match us, xs, h, e with
  | [u], [(k, x)], h, e =>
    have e' : x = d := by simpa using e
    subst e'
    exact ⟨u, k, rfl, h.1⟩
  | _, [], _, e => cases e
  | _, _ :: _ :: _, _, e => cases e
  | [], [_], h, _ => exact h.elim
  | _ :: _ :: _, [_], h, _ => exact h.2.elim
theorem vrs2 {K : PySem.W.Frag} {S : SA} {O : Addr → Prop} {Ha H : Hp} {us : List V} {xs : List (Kd × D)} {d d' : D} (h : VRs K S O Ha H us xs) (e : xs.map (·.2) = [d, d']) :
    ∃ u u' k k', us = [u, u'] ∧ VR K S O Ha H k u d ∧ VR K S O Ha H k' u' d' := by
  match us, xs, h, e with
  | [u, u'], [(k, x), (k', x')], h, e =>
    have e' : x = d ∧ x' = d' := by simpa using e
    obtain ⟨rfl, rfl⟩ := e'
    exact ⟨u, u', k, k', rfl, h.1, h.2.1⟩
  | _, [], _, e => cases e
  | _, [_], _, e => cases e
  | _, _ :: _ :: _ :: _, _, e => cases e
  | [], _ :: _, h, _ => exact h.elim
  | [_], _ :: _ :: _, h, _ => exact h.2.elim
  | _ :: _ :: _ :: _, [_, _], h, _ => exact h.2.2.elim
theorem ints_of {K : PySem.W.Frag} {H : Hp} : ∀ {ds : List D} {vs : List V} {ns : List Int}, RpA K H vs ds → intsOf ds = some ns → vs = ns.map V.int
  | [], _, _, h, e => by cases h; cases e; rfl
  | d :: ds, _, ns, h, e => by
    cases h with
    | cons h1 h2 =>
      cases d with
      | int i =>
        have e' : (intsOf ds).map (i :: ·) = some ns := e
        cases q : intsOf ds with
        | none => rw [q] at e'; cases e'
        | some ms =>
          rw [q] at e'
          cases e'
          cases h1
          rw [ints_of h2 q]
          rfl
      | _ => cases e
theorem bools_of {K : PySem.W.Frag} {H : Hp} : ∀ {ds : List D} {vs : List V} {ns : List Bool}, RpA K H vs ds → boolsOf ds = some ns → vs = ns.map V.bl
  | [], _, _, h, e => by cases h; cases e; rfl
  | d :: ds, _, ns, h, e => by
    cases h with
    | cons h1 h2 =>
      cases d with
      | bool i =>
        have e' : (boolsOf ds).map (i :: ·) = some ns := e
        cases q : boolsOf ds with
        | none => rw [q] at e'; cases e'
        | some ms =>
          rw [q] at e'
          cases e'
          cases h1
          rw [bools_of h2 q]
          rfl
      | _ => cases e
theorem strs_of {K : PySem.W.Frag} {H : Hp} : ∀ {ds : List D} {vs : List V} {ns : List Str}, RpA K H vs ds → strsOf ds = some ns → vs = ns.map V.str ∧ ∀ x ∈ ns, PyData.strOk x = true
  | [], _, _, h, e => by cases h; cases e; exact ⟨rfl, fun _ z => nomatch z⟩
  | d :: ds, _, ns, h, e => by
    cases h with
    | cons h1 h2 =>
      cases d with
      | str i =>
        have e' : (strsOf ds).map (i :: ·) = some ns := e
        cases q : strsOf ds with
        | none => rw [q] at e'; cases e'
        | some ms =>
          rw [q] at e'
          cases e'
          cases h1 with
          | str _ l1 l2 =>
            obtain ⟨z1, z2⟩ := strs_of h2 q
            rw [z1]
            refine ⟨rfl, fun x hx => ?_⟩
            rcases List.mem_cons.mp hx with rfl | hx
            · exact l2
            · exact z2 x hx
      | _ => cases e
theorem maxL_ge : ∀ (r : List Int) (m : Int), m ≤ maxL m r ∧ ∀ y ∈ r, y ≤ maxL m r
  | [], m => ⟨Int.le_refl _, fun _ h => nomatch h⟩
  | x :: r, m => by
    show m ≤ maxL (if x > m then x else m) r ∧ ∀ y ∈ x :: r, y ≤ maxL (if x > m then x else m) r
    by_cases c : x > m
    · rw [if_pos c]
      obtain ⟨h1, h2⟩ := maxL_ge r x
      refine ⟨by omega, fun y hy => ?_⟩
      rcases List.mem_cons.mp hy with rfl | hy
      · exact h1
      · exact h2 y hy
    · rw [if_neg c]
      obtain ⟨h1, h2⟩ := maxL_ge r m
      refine ⟨h1, fun y hy => ?_⟩
      rcases List.mem_cons.mp hy with rfl | hy
      · omega
      · exact h2 y hy
theorem maxL_mem : ∀ (r : List Int) (m : Int), maxL m r ∈ m :: r
  | [], m => List.mem_cons_self
  | x :: r, m => by
    have h := maxL_mem r (if x > m then x else m)
    show maxL (if x > m then x else m) r ∈ m :: x :: r
    rcases List.mem_cons.mp h with h | h
    · rw [h]
      split
      · exact List.mem_cons_of_mem _ List.mem_cons_self
      · exact List.mem_cons_self
    · exact List.mem_cons_of_mem _ (List.mem_cons_of_mem _ h)
theorem minL_le : ∀ (r : List Int) (m : Int), minL m r ≤ m ∧ ∀ y ∈ r, minL m r ≤ y
  | [], m => ⟨Int.le_refl _, fun _ h => nomatch h⟩
  | x :: r, m => by
    show minL (if x < m then x else m) r ≤ m ∧ ∀ y ∈ x :: r, minL (if x < m then x else m) r ≤ y
    by_cases c : x < m
    · rw [if_pos c]
      obtain ⟨h1, h2⟩ := minL_le r x
      refine ⟨by omega, fun y hy => ?_⟩
      rcases List.mem_cons.mp hy with rfl | hy
      · exact h1
      · exact h2 y hy
    · rw [if_neg c]
      obtain ⟨h1, h2⟩ := minL_le r m
      refine ⟨h1, fun y hy => ?_⟩
      rcases List.mem_cons.mp hy with rfl | hy
      · omega
      · exact h2 y hy
theorem minL_mem : ∀ (r : List Int) (m : Int), minL m r ∈ m :: r
  | [], m => List.mem_cons_self
  | x :: r, m => by
    have h := minL_mem r (if x < m then x else m)
    show minL (if x < m then x else m) r ∈ m :: x :: r
    rcases List.mem_cons.mp h with h | h
    · rw [h]
      split
      · exact List.mem_cons_of_mem _ List.mem_cons_self
      · exact List.mem_cons_self
    · exact List.mem_cons_of_mem _ (List.mem_cons_of_mem _ h)
def biV : BI → Value
  | .len => .builtin "len"
  | .abs => .builtin "abs"
  | .max => .builtin "max"
  | .min => .builtin "min"
  | .int => .type "int"
  | .str => .type "str"
  | .repr => .builtin "repr"
  | .sum => .builtin "sum"
  | .all => .builtin "all"
  | .any => .builtin "any"
  | .list => .type "list"
  | .tuple => .type "tuple"
  | .sorted => .builtin "sorted"
def biN : BI → Str
  | .len => "len"
  | .abs => "abs"
  | .max => "max"
  | .min => "min"
  | .int => "int"
  | .str => "str"
  | .repr => "repr"
  | .sum => "sum"
  | .all => "all"
  | .any => "any"
  | .list => "list"
  | .tuple => "tuple"
  | .sorted => "sorted"
/-! ### texts of signs that are -/
def okT (x : Str) : Prop := ∀ c ∈ x.cps.toList, c < 0x110000
theorem okT_of {x : Str} (h : PyData.strOk x = true) : okT x := fun c hc => by
  unfold PyData.strOk at h
  rw [← Array.all_toList, List.all_eq_true] at h
  exact of_decide_eq_true (h c hc)
theorem strOk_of {x : Str} (h : okT x) : PyData.strOk x = true := by
  unfold PyData.strOk
  rw [← Array.all_toList, List.all_eq_true]
  exact fun c hc => decide_eq_true (h c hc)
theorem okT_app {a b : Str} (h : okT a) (g : okT b) : okT (a ++ b) := fun c hc => by
  have hc : c ∈ (a.cps ++ b.cps).toList := hc
  rw [Array.toList_append] at hc
  rcases List.mem_append.mp hc with hc | hc
  · exact h c hc
  · exact g c hc
theorem char_lt (c : Char) : c.toNat < 0x110000 := by
  have h := c.valid
  rcases h with h | ⟨_, h⟩
  · have : c.toNat < 0xd800 := h
    omega
  · exact h
theorem okT_str (x : String) : okT (Str.ofString x) := fun c hc => by
  rw [PyProof.Rows.signs_ofString] at hc
  obtain ⟨d, _, rfl⟩ := List.mem_map.mp hc
  exact char_lt d
theorem repr_char_ok (q c : Nat) (hc : c < 0x110000) : ∀ d ∈ Builtin.Str.reprChar q c, d < 0x110000 := by
  have hx : ∀ (w : Nat) d, d ∈ List.replicate (w - ((Nat.toDigits 16 c).map Char.toNat).length) 48 ++ (Nat.toDigits 16 c).map Char.toNat → d < 0x110000 := fun w d hd => by
    rcases List.mem_append.mp hd with hd | hd
    · rw [(List.mem_replicate.mp hd).2]; decide
    · obtain ⟨z, _, rfl⟩ := List.mem_map.mp hd
      exact char_lt z
  intro d hd
  unfold Builtin.Str.reprChar at hd
  dsimp only at hd
  split at hd
  · simp only [List.mem_cons, List.not_mem_nil, or_false] at hd; omega
  split at hd
  · simp only [List.mem_cons, List.not_mem_nil, or_false] at hd; omega
  split at hd
  · simp only [List.mem_cons, List.not_mem_nil, or_false] at hd; omega
  split at hd
  · simp only [List.mem_cons, List.not_mem_nil, or_false] at hd; omega
  split at hd
  · simp only [List.mem_cons, List.not_mem_nil, or_false] at hd; omega
  split at hd
  · rcases List.mem_append.mp hd with hd | hd
    · simp only [List.mem_cons, List.not_mem_nil, or_false] at hd; omega
    · exact hx 2 d hd
  split at hd
  · rcases List.mem_append.mp hd with hd | hd
    · simp only [List.mem_cons, List.not_mem_nil, or_false] at hd; omega
    · exact hx 4 d hd
  · rcases List.mem_append.mp hd with hd | hd
    · simp only [List.mem_cons, List.not_mem_nil, or_false] at hd; omega
    · exact hx 8 d hd
theorem fold_ok (q : Nat) : ∀ (l : List Nat) (acc : Array Nat), (∀ c ∈ l, c < 0x110000) → (∀ d ∈ acc.toList, d < 0x110000) → ∀ d ∈ (l.foldl (fun out c => out ++ (Builtin.Str.reprChar q c).toArray) acc).toList, d < 0x110000
  | [], acc, _, h => h
  | c :: r, acc, h, g => by
    refine fold_ok q r _ (fun d hd => h d (List.mem_cons_of_mem _ hd)) fun d hd => ?_
    rw [Array.toList_append] at hd
    rcases List.mem_append.mp hd with hd | hd
    · exact g d hd
    · exact repr_char_ok q c (h c List.mem_cons_self) d (by simpa using hd)
theorem okT_repr {x : Str} (h : okT x) : okT (reprText x) := fun c hc => by
  have hq : reprQuote x < 0x110000 := by unfold reprQuote; split <;> decide
  unfold reprText at hc
  rw [Array.toList_push, ← Array.foldl_toList] at hc
  rcases List.mem_append.mp hc with hc | hc
  · refine fold_ok _ x.cps.toList _ h (fun d hd => ?_) c hc
    have e : d = reprQuote x := by simpa using hd
    omega
  · have e : c = reprQuote x := by simpa using hc
    omega
theorem okT_textFrom : ∀ (ts : List Str) (k : Nat) (acc : Str), okT acc → (∀ t ∈ ts, okT t) → okT (textFrom k acc ts)
  | [], _, _, h, _ => h
  | t :: ts, k, acc, h, g => okT_textFrom ts (k + 1) _ (okT_app (okT_app h (okT_str _)) (g t List.mem_cons_self)) fun u hu => g u (List.mem_cons_of_mem _ hu)
theorem okT_join (sep : Str) (h : okT sep) : ∀ ts : List Str, (∀ t ∈ ts, okT t) → okT (Str.join sep ts)
  | [], _ => okT_str ""
  | [x], g => g x List.mem_cons_self
  | x :: y :: r, g => okT_app (okT_app (g x List.mem_cons_self) h) (okT_join sep h (y :: r) fun t ht => g t (List.mem_cons_of_mem _ ht))
mutual
theorem okT_shown : ∀ d : D, d.canLay0 = true → okT d.shown
  | .none, _ => by simp only [PyData.shown]; exact okT_str _
  | .bool b, _ => by simp only [PyData.shown]; split <;> exact okT_str _
  | .int i, _ => by simp only [PyData.shown]; exact okT_str _
  | .str x, h => by
    simp only [PyData.shown]
    exact okT_repr (okT_of (by simpa only [PyData.canLay0] using h))
  | .list xs, h => by
    simp only [PyData.shown]
    exact okT_app (okT_textFrom _ _ _ (okT_str _) (okT_all xs (by simpa only [PyData.canLay0] using h))) (okT_str _)
  | .tuple xs, h => by
    simp only [PyData.shown]
    exact okT_app (okT_app (okT_str _) (okT_join _ (okT_str _) _ (okT_all xs (by simpa only [PyData.canLay0] using h)))) (okT_str _)
  | .dict _, h => by simp [PyData.canLay0] at h
theorem okT_all : ∀ ds : List D, PyData.canLayAll0 ds = true → ∀ t ∈ PyData.shownAll ds, okT t
  | [], _, t, ht => by simp [PyData.shownAll] at ht
  | d :: ds, h, t, ht => by
    simp only [PyData.canLayAll0, Bool.and_eq_true] at h
    simp only [PyData.shownAll, List.mem_cons] at ht
    rcases ht with rfl | ht
    · exact okT_shown d h.1
    · exact okT_all ds h.2 t ht
end
section
variable {X : Cx} {S : SA}
theorem repr_ok (hA : X.A.guards = some []) (hu : X.A.units + 200 < cLine) {pins : List (Addr × Obj)} {s : Shared} {σ : L2.St} {H : Hp} {x : V} {v : Value} {d : D} {Q : VK} (I : Inv X pins σ H s) (rx : RelV x v) (r : Rp X.K H x d)
    (h1 : d.showable = true) (h2 : d.depth ≤ 64) (h3 : d.hasDict = false) (h4 : d.shown.length ≤ sizeLine) (q : Q (.str d.shown) H) :
    wpAny (model X.prog X.w) X.A (call (.builtin "repr") [v]) (EP X pins σ Q) X.xe s := by
  obtain ⟨as, rd⟩ := Dp.reads I d x v r.dp rx
  have fin : ∀ (h' : Heap) (u : Tok) (tk : Nat), (∀ b o, s.heap.get? b = some o → h'.get? b = some o) → EP X pins σ Q (.str d.shown u) { s with heap := h', toks := tk } :=
    fun h' u tk k => ⟨.str _, H, I.kept (t' := tk) k, ⟨_, rfl⟩, q⟩
  cases r with
  | non =>
    cases rx
    refine PySem.P.repr_of_none ?_
    simp only [PyData.shown] at fin
    exact fin s.heap _ _ fun _ _ e => e
  | bl b =>
    cases rx
    refine PySem.P.repr_of_bool ?_
    simp only [PyData.shown] at fin
    exact fin s.heap _ _ fun _ _ e => e
  | int i =>
    obtain ⟨t, rfl⟩ := rx
    refine PySem.P.repr_of_int (by simpa [PyData.showable] using h1) ?_
    simp only [PyData.shown] at fin
    exact fin s.heap _ _ fun _ _ e => e
  | str y l1 l2 =>
    obtain ⟨t, rfl⟩ := rx
    simp only [PyData.shown] at fin h4
    exact PySem.P.repr_of_str (fin s.heap _ _ fun _ _ e => e) h4
  | lst e1 e2 =>
    cases rx
    exact repr_of_reads' rd h1 (PyData.noDict_hsm h3) hA (by omega) (fun _ _ e => e) fin h4
  | tup e1 e2 =>
    cases rx
    exact repr_of_reads' rd h1 (PyData.noDict_hsm h3) hA (by omega) (fun _ _ e => e) fin h4
theorem bi_ok (hA : X.A.guards = some []) (hc : X.calm = true) (hu : X.A.units + 200 < cLine) (b : BI) : CallR X (biV b) (rVn X.K S (biF b)) := by
  intro pins s σ H us vs Q I ru h
  obtain ⟨O, Ha, xs, k, z, hO, hx, e, q⟩ := h
  generalize hxs : xs.map (·.2) = ds at e
  unfold biF at e
  split at e
  · cases e
    obtain ⟨u, k1, rfl, r⟩ := vrs1 hx hxs
    obtain ⟨a, ws, rfl, ea, ra⟩ := r.list
    refine call_len_seq pins s σ H _ vs Q I ru ⟨_, _, rfl, .inl (.of ea), ?_⟩
    rw [ra.len]
    exact q _ _ (Same.refl _) (Rp.int _)
  · cases e
    obtain ⟨u, k1, rfl, r⟩ := vrs1 hx hxs
    obtain ⟨a, ws, rfl, ea, ra⟩ := r.tuple
    refine call_len_seq pins s σ H _ vs Q I ru ⟨_, _, rfl, .inr ea, ?_⟩
    rw [ra.len]
    exact q _ _ (Same.refl _) (Rp.int _)
  · cases e
    obtain ⟨u, k1, rfl, r⟩ := vrs1 hx hxs
    obtain ⟨rfl, l1, l2⟩ := r.str
    exact call_len_str pins s σ H _ vs Q I ru ⟨_, rfl, l1, q _ _ (Same.refl _) (Rp.int _)⟩
  · cases e
    obtain ⟨u, k1, rfl, r⟩ := vrs1 hx hxs
    obtain rfl := r.int
    exact call_abs pins s σ H _ vs Q I ru ⟨_, rfl, q _ _ (Same.refl _) (Rp.int _)⟩
  · cases e
    obtain ⟨u, u', k1, k2, rfl, r, r'⟩ := vrs2 hx hxs
    obtain rfl := r.int; obtain rfl := r'.int
    exact call_max2 hc pins s σ H _ vs Q I ru ⟨_, _, rfl, q _ _ (Same.refl _) (Rp.int _)⟩
  · cases e
    obtain ⟨u, u', k1, k2, rfl, r, r'⟩ := vrs2 hx hxs
    obtain rfl := r.int; obtain rfl := r'.int
    exact call_min2 hc pins s σ H _ vs Q I ru ⟨_, _, rfl, q _ _ (Same.refl _) (Rp.int _)⟩
  · split at e <;> cases e
    rename_i m r e1
    obtain ⟨u, k1, rfl, rr⟩ := vrs1 hx hxs
    obtain ⟨a, ws, rfl, ea, ra⟩ := rr.list
    obtain rfl := ints_of ra e1
    refine cr_max hc pins s σ H _ vs Q I ru ⟨_, _, rfl, .of ea, Nat.zero_lt_succ _, fun m' hm hl => ?_⟩
    have e2 : m' = maxL m r := by
      have h1 := hl _ (maxL_mem r m)
      have h2 : m' ≤ maxL m r := by
        rcases List.mem_cons.mp hm with rfl | hm
        · exact (maxL_ge r m').1
        · exact (maxL_ge r m).2 _ hm
      omega
    subst e2
    exact q _ _ (Same.refl _) (Rp.int _)
  · split at e <;> cases e
    rename_i m r e1
    obtain ⟨u, k1, rfl, rr⟩ := vrs1 hx hxs
    obtain ⟨a, ws, rfl, ea, ra⟩ := rr.list
    obtain rfl := ints_of ra e1
    refine cr_min hc pins s σ H _ vs Q I ru ⟨_, _, rfl, .of ea, Nat.zero_lt_succ _, fun m' hm hl => ?_⟩
    have e2 : m' = minL m r := by
      have h1 := hl _ (minL_mem r m)
      have h2 : minL m r ≤ m' := by
        rcases List.mem_cons.mp hm with rfl | hm
        · exact (minL_le r m').1
        · exact (minL_le r m).2 _ hm
      omega
    subst e2
    exact q _ _ (Same.refl _) (Rp.int _)
  · cases e
    obtain ⟨u, k1, rfl, r⟩ := vrs1 hx hxs
    obtain rfl := r.int
    exact call_int1 pins s σ H _ vs Q I ru (.inl ⟨_, rfl, q _ _ (Same.refl _) (Rp.int _)⟩)
  · cases e
    obtain ⟨u, k1, rfl, r⟩ := vrs1 hx hxs
    obtain rfl := r.bool
    exact call_int1 pins s σ H _ vs Q I ru (.inr ⟨_, rfl, q _ _ (Same.refl _) (Rp.int _)⟩)
  · obtain ⟨ns, e1, e2⟩ := Option.map_eq_some_iff.mp e
    cases e2
    obtain ⟨u, k1, rfl, rr⟩ := vrs1 hx hxs
    obtain ⟨a, ws, rfl, ea, ra⟩ := rr.list
    obtain rfl := ints_of ra e1
    exact cr_sum hc pins s σ H _ vs Q I ru ⟨_, _, rfl, .of ea, q _ _ (Same.refl _) (Rp.int _)⟩
  · obtain ⟨ns, e1, e2⟩ := Option.map_eq_some_iff.mp e
    cases e2
    obtain ⟨u, k1, rfl, rr⟩ := vrs1 hx hxs
    obtain ⟨a, ws, rfl, ea, ra⟩ := rr.list
    obtain rfl := bools_of ra e1
    exact cr_all hc pins s σ H _ vs Q I ru ⟨_, _, rfl, .of ea, q _ _ (Same.refl _) (Rp.bl _)⟩
  · obtain ⟨ns, e1, e2⟩ := Option.map_eq_some_iff.mp e
    cases e2
    obtain ⟨u, k1, rfl, rr⟩ := vrs1 hx hxs
    obtain ⟨a, ws, rfl, ea, ra⟩ := rr.list
    obtain rfl := bools_of ra e1
    exact cr_any hc pins s σ H _ vs Q I ru ⟨_, _, rfl, .of ea, q _ _ (Same.refl _) (Rp.bl _)⟩
  · obtain ⟨ns, e1, e2⟩ := Option.map_eq_some_iff.mp e
    cases e2
    obtain ⟨u, k1, rfl, rr⟩ := vrs1 hx hxs
    unfold itemsOf at e1
    split at e1 <;> cases e1
    · obtain ⟨a, ws, rfl, ea, ra⟩ := rr.list
      exact call_list_of pins s σ H _ vs Q I ru ⟨_, _, rfl, .inl (.of ea), fun l hl => q _ _ (same_new hl) (new_lst hO hl ra)⟩
    · obtain ⟨a, ws, rfl, ea, ra⟩ := rr.tuple
      exact call_list_of pins s σ H _ vs Q I ru ⟨_, _, rfl, .inr ea, fun l hl => q _ _ (same_new hl) (new_lst hO hl ra)⟩
  · obtain ⟨ns, e1, e2⟩ := Option.map_eq_some_iff.mp e
    cases e2
    obtain ⟨u, k1, rfl, rr⟩ := vrs1 hx hxs
    unfold itemsOf at e1
    split at e1 <;> cases e1
    · obtain ⟨a, ws, rfl, ea, ra⟩ := rr.list
      exact call_tuple_of pins s σ H _ vs Q I ru ⟨_, _, rfl, .inl ⟨.of ea, fun l hl => q _ _ (same_new hl) (new_tup hO hl ra)⟩⟩
    · have f := rr.tupleF
      obtain ⟨a, ws, rfl, ea, ra⟩ := rr.tuple
      exact call_tuple_of pins s σ H _ vs Q I ru ⟨_, _, rfl, .inr ⟨ea, q _ _ (Same.refl _) f⟩⟩
  · split at e <;> cases e
    rename_i h
    obtain ⟨u, k1, rfl, r⟩ := vrs1 hx hxs
    obtain ⟨v, rfl, rv⟩ := vals1 ru
    refine repr_ok hA hu I rv r.rp h.1 h.2.1 h.2.2.1 h.2.2.2 (q _ _ (Same.refl _) (Rp.str _ h.2.2.2 (strOk_of (okT_shown _ r.rp.lay))))
  · split at e <;> cases e
    obtain ⟨u, k1, rfl, r⟩ := vrs1 hx hxs
    obtain rfl := r.int
    exact call_str_int pins s σ H _ vs Q I ru ⟨_, rfl, by assumption, q _ _ (Same.refl _) (Rp.str _ (int_text_fits (by assumption)) (strOk_of (okT_str _)))⟩
  · cases e
end
end Tre
/-! Tre5: expressions. -/
namespace Tre
open PySem PySem.Spec PyProof.Rows L2

/-- what a def that the evaluator knows promises -/
def spF (ts : List (Addr × Str)) (Xn : XT) (K : PySem.W.Frag) (F : List Arg → Src → R (Bool × D)) : Sp := fun vs H Q E => ∃ (S : SA) (O : Addr → Prop) (xs : List Arg) (s : Src), S.ts = ts ∧ (∀ b, S.Out b → O b) ∧ (∀ a, O a → H a ≠ none) ∧ SrcR S H s ∧ AR K S O H vs xs ∧
  RQ (F xs s) (fun r s' => ∀ v H', Ex S H H' → SrcR S H' s' → VR K S O H H' (if r.1 then .own else .frz) v r.2 → Q v H') fun c a s' => ∀ H' cls d, Ex S H H' → SrcR S H' s' → XR K Xn H' c a cls d → E cls d H'

def bltNames : List Str := ["len", "abs", "max", "min", "int", "str", "repr", "sum", "all", "any", "list", "tuple", "sorted", "isinstance", "range", "enumerate", "zip", "reversed", "bool", "dict"]
/-- an own exception is made: its values stand under its fields -/
def XcOk (C : Cf) (X : Cx) (c : Nat) (x : Str) (ar : Nat) : Prop := ∃ Cc fs, C.Xn c = some (Cc, fs) ∧ fs.length = ar ∧ (ar = 0 → ∀ (p pos : Pos), Gl X x → PMk X (.Call (.Name x p) [] [] pos) (fun _ H Q => Q (.ref Cc) none H)) ∧ ∀ (ta : TA) (e : Expr) (es : List Expr) (p pos : Pos), Gl X x → PA X (e :: es) ta → (e :: es).length = ar →
  starEach (e :: es) X.env = (false, eval e X.env) :: starEach es X.env → (backTo pos (starEach es X.env)).any (·.1) = false →
  PMk X (.Call (.Name x p) (e :: es) [] pos) (fun σ H Q => ta σ H fun vs H1 => vs.length = ar ∧ vs.length ≤ 1000 ∧ ∀ d, H1 d = none → Q (.ref Cc) (some d) (upd H1 d (.xd (fs.zip vs.reverse))))
/-- where a body stands -/
structure HX (C : Cf) (k : Nat) (fns cns : List Str) (X : Cx) : Prop where
  nd : X.N.Nodup
  calm : X.calm = true
  guards : X.A.guards = some []
  room : Room k X.A
  blt : ∀ x ∈ bltNames, X.mg x = none
  fn : ∀ (f : Nat) (x : Str), fns[f]? = some x → ∃ (a : Addr) (fd : FuncData) (ps : List Str), X.mg x = some (.ref a) ∧ PySem.W.keepIn X.K (.ref a) = true ∧ Binds X.K fd ps [] ∧
    FnG X.prog X.w X.K X.mg X.base (L2.CX X.prog X.w) k a fd ps (spF C.ts C.Xn X.K (C.Φ f))
  cn : ∀ (i : Nat) (x : Str) (d : D), cns[i]? = some x → C.G i = some d → ∃ u v, X.mg x = some u ∧ RelV v u ∧ Rp X.K (fun _ => none) v d

section
variable {C : Cf} {k : Nat} {fns cns : List Str} {X : Cx} {B : Bx} {W : WX}
theorem HX.units (hx : HX C k fns cns X) : X.A.units + 200 < cLine := by
  have := hx.room.un
  omega
/-- an expression's judgement -/
structure JE (C : Cf) (X : Cx) (B : Bx) (W : WX) (x : Expr) (t : T) : Prop where
  e : PE X x (tE C X.K B W t)
  t : PT X x (tT C X.K B W t)
/-- .. of and, or -/
structure JW (C : Cf) (X : Cx) (B : Bx) (W : WX) (x : Expr) (t : T) : Prop where
  e : PE X x (tE C X.K B W t)
  w : PW X x (tT C X.K B W t)
theorem JW.je {e : Expr} {t : T} (h : JW C X B W e t) : JE C X B W e t := ⟨h.e, h.w.pt⟩

theorem isEmpty_rp {K : PySem.W.Frag} {H : Hp} {vs : List V} {ds : List D} (h : RpA K H vs ds) : vs.isEmpty = ds.isEmpty := by cases h <;> rfl
theorem tru_of {K : PySem.W.Frag} {H : Hp} {v : V} {d : D} (h : Rp K H v d) : TruV K v H (truth d) := by
  cases h with
  | non => rfl
  | bl b => rfl
  | int i => rfl
  | str x h1 h2 => exact ⟨h1, rfl⟩
  | lst h1 h2 => exact .inl ⟨_, .of h1, by rw [isEmpty_rp h2] <;> rfl⟩
  | tup h1 h2 => exact .inr (.inl ⟨_, h1, by rw [isEmpty_rp h2] <;> rfl⟩)
/-- a value as a test -/
theorem pt_of {e : Expr} {t : T} (h : PE X e (tE C X.K B W t)) (he : ∀ whole, isTrue e X.env whole = (do let v ← whole; standAt e.pos; holding [v] (truthy v))) : PT X e (tT C X.K B W t) := by
  refine (pt_truth h he).weak fun σ H Q => ?_
  rintro ⟨env, s, O, r, q, h⟩
  exact ⟨env, s, O, r, q, h.mono (fun x s1 h1 v H1 e1 q1 v1 => ⟨_, tru_of v1.rp, h1 H1 e1 q1⟩) fun _ _ _ z => z⟩
theorem JE.of {e : Expr} {t : T} (h : PE X e (tE C X.K B W t)) (he : ∀ whole, isTrue e X.env whole = (do let v ← whole; standAt e.pos; holding [v] (truthy v)) := by intro _; rfl) : JE C X B W e t := ⟨h, pt_of h he⟩

/-! ### names and constants -/
theorem je_int {i : Int} {j : Nat} {pos : Pos} : JE C X B W (.Constant (.int i) j pos) (.c (.int i)) := by
  refine .of (pe_int.weak fun σ H Q => ?_)
  rintro ⟨env, s, O, r, q, h⟩
  exact h _ _ (Ex.refl _ _) q (Rp.int i)
theorem je_bl {b : Bool} {j : Nat} {pos : Pos} : JE C X B W (.Constant (.bool b) j pos) (.c (.bool b)) := by
  refine .of (pe_bl.weak fun σ H Q => ?_)
  rintro ⟨env, s, O, r, q, h⟩
  exact h _ _ (Ex.refl _ _) q (Rp.bl b)
theorem je_non {j : Nat} {pos : Pos} : JE C X B W (.Constant .none j pos) (.c .none) := by
  refine .of (pe_non.weak fun σ H Q => ?_)
  rintro ⟨env, s, O, r, q, h⟩
  exact h _ _ (Ex.refl _ _) q Rp.non
theorem je_str {x : Str} {j : Nat} {pos : Pos} (h1 : x.length ≤ sizeLine) (h2 : PyData.strOk x = true) : JE C X B W (.Constant (.str x) j pos) (.c (.str x)) := by
  refine .of (pe_str.weak fun σ H Q => ?_)
  rintro ⟨env, s, O, r, q, h⟩
  exact h _ _ (Ex.refl _ _) q (Rp.str x h1 h2)
theorem je_v {i : Nat} {x : Str} {pos : Pos} (hN : X.N[i]? = some x) (hv : Vis X.env.scope x) (hd : (x == ("__debug__" : Str)) = false) (hcd : (x == ("__classdict__" : Str)) = false) : JE C X B W (.Name x pos) (.v i) := by
  refine .of ((pe_var hN hv hd hcd).weak fun σ H Q => ?_)
  rintro ⟨env, s, O, r, q, h⟩
  unfold evE at h
  cases e1 : env[i]? with
  | none => rw [e1] at h; exact h.elim
  | some sl =>
    rw [e1] at h
    have hi : i < σ.length := by
      rw [← r.len]
      exact (List.getElem?_eq_some_iff.mp e1).1
    have e2 : σ[i]? = some σ[i] := List.getElem?_eq_getElem hi
    have so := r.slots i sl _ e1 e2
    cases sl with
    | e => exact h.elim
    | src => exact h.elim
    | d o x =>
      cases o with
      | false =>
        obtain ⟨v, e3, p⟩ := so
        exact ⟨v, by rw [e2, e3], h v H (Ex.refl _ _) q p⟩
      | true =>
        obtain ⟨a, vs, ds, e3, rfl, p1, p2, p3, p4, p5⟩ := so
        exact ⟨_, by rw [e2, e3], h _ H (Ex.refl _ _) q ⟨a, vs, ds, rfl, rfl, p1, p2, r.nO0 p4⟩⟩
theorem je_g (hx : HX C k fns cns X) {i : Nat} {x : Str} {pos : Pos} (hi : cns[i]? = some x) (hg : Gl X x) (hd : (x == ("__debug__" : Str)) = false) : JE C X B W (.Name x pos) (.g i) := by
  cases e : C.G i with
  | none =>
    refine .of ⟨fun pins s σ H Q I h => ?_⟩
    obtain ⟨env, s, O, r, q, h⟩ := h
    unfold evE at h
    rw [e] at h
    exact h.elim
  | some d =>
    obtain ⟨u, v, hm, rv, rp⟩ := hx.cn i x d hi e
    refine .of ((pe_glob hg hm rv hd).weak fun σ H Q => ?_)
    rintro ⟨env, s, O, r, q, h⟩
    unfold evE at h
    rw [e] at h
    exact h v H (Ex.refl _ _) q (rp.mono fun _ o z => nomatch (show (none : Option HO) = some o from z))

/-! ### operators -/
variable {a b c : Expr} {ta tb tc : T} {pos : Pos}
theorem Ex.same {S : SA} {H H1 H2 : Hp} (e : Ex S H H1) (m : Same H1 H2) : Ex S H H2 := e.trans (.of m)
theorem je_op (o : Operator) (ha : JE C X B W a ta) (hb : JE C X B W b tb) : JE C X B W (.BinOp a o b pos) (.op o ta tb) := by
  refine .of ((pe_op (op_ok (S := B.S) o) ha.e hb.e).weak fun σ H Q => ?_)
  rintro ⟨env, s, O, r, q, h⟩
  unfold evE at h
  refine eTwo r q (h.bind.mono (fun x s1 h1 => h1.bind.mono (fun y s2 h2 => ?_) fun _ _ _ z => z) fun _ _ _ z => z)
  obtain ⟨⟨kd, z⟩, e, h3⟩ := h2.of
  intro u w H2 e2 q2 v1 v2
  exact ⟨O, H, x.1, y.1, x.2, y.2, kd, z, (r.ext e2 q2).dom, v1, v2, e, fun v H' m vr => h3 v H' (e2.same m) (q2.same m) (VR.back (H1 := H2) vr e2 q2)⟩
theorem two_cmp (hx : HX C k fns cns X) (o : CmpOp) {σ : L2.St} {H : Hp} {P : Bool → Hp → Prop} {env : Env} {s : Src} {O : Addr → Prop} (r : B.Rl X.K O env σ H) (q : SrcR B.S H s)
    (h : RQ (evE C.Φ C.G (.cmp o ta tb) env s) (fun x s' => ∀ H', Ex B.S H H' → SrcR B.S H' s' → P (truth x.2) H') (wX C X.K B W σ H)) :
    tOp (rC2 X.K B.S (cmpF o)) (tE C X.K B W ta) (tE C X.K B W tb) σ H fun x H1 => ∃ b, x = .bl b ∧ P b H1 := by
  unfold evE at h
  refine eTwo r q (h.bind.mono (fun x s1 h1 => h1.bind.mono (fun y s2 h2 => ?_) fun _ _ _ z => z) fun _ _ _ z => z)
  obtain ⟨z, e, h3⟩ := h2.of
  obtain ⟨k, e1, e2⟩ := Option.map_eq_some_iff.mp e
  subst e2
  intro u w H2 e2 q2 v1 v2
  exact ⟨O, H, x.1, y.1, x.2, y.2, k, v1, v2, e1, k, rfl, h3 H2 e2 q2⟩
theorem je_cmp (hx : HX C k fns cns X) (o : CmpOp) (ha : JE C X B W a ta) (hb : JE C X B W b tb) (hm : behindInMarks o b = false) : JE C X B W (.Compare a [o] [b] pos) (.cmp o ta tb) := by
  constructor
  · refine (pe_cmpR (cmp_ok (S := B.S) hx.units o) ha.e hb.e hm).weak fun σ H Q => ?_
    rintro ⟨env, s, O, r, q, h⟩
    unfold evE at h
    refine eTwo r q (h.bind.mono (fun x s1 h1 => h1.bind.mono (fun y s2 h2 => ?_) fun _ _ _ z => z) fun _ _ _ z => z)
    obtain ⟨z, e, h3⟩ := h2.of
    obtain ⟨k, e1, e2⟩ := Option.map_eq_some_iff.mp e
    subst e2
    intro u w H2 e2 q2 v1 v2
    exact ⟨O, H, x.1, y.1, x.2, y.2, k, v1, v2, e1, h3 _ H2 e2 q2 (Rp.bl k)⟩
  · refine (pt_cmpR (cmp_ok (S := B.S) hx.units o) ha.e hb.e hm).weak fun σ H Q => ?_
    rintro ⟨env, s, O, r, q, h⟩
    exact two_cmp hx o r q h
theorem je_cmp2 (hx : HX C k fns cns X) (o o' : CmpOp) (ha : JE C X B W a ta) (hb : JE C X B W b tb) (hc : JE C X B W c tc) (hm : lastMarks [o, o'] [b, c] = false) : JE C X B W (.Compare a [o, o'] [b, c] pos) (.cmp2 o o' ta tb tc) := by
  have key : ∀ (P : D → Hp → Prop) (σ : L2.St) (H : Hp) (env : Env) (s : Src) (O : Addr → Prop), B.Rl X.K O env σ H → SrcR B.S H s →
      RQ (evE C.Φ C.G (.cmp2 o o' ta tb tc) env s) (fun x s' => ∀ b H', x = (.frz, .bool b) → Ex B.S H H' → SrcR B.S H' s' → P (.bool b) H') (wX C X.K B W σ H) →
      tChain (rC2 X.K B.S (cmpF o)) (rC2 X.K B.S (cmpF o')) (tE C X.K B W ta) (tE C X.K B W tb) (tE C X.K B W tc) σ H fun x H1 => ∃ b, x = .bl b ∧ P (.bool b) H1 := by
    intro P σ H env s O r q h
    unfold evE at h
    refine eTwo r q (h.bind.mono (fun x s1 h1 => h1.bind.mono (fun y s2 h2 => ?_) fun _ _ _ z => z) fun _ _ _ z => z)
    obtain ⟨kb, e, h3⟩ := h2.bind.of
    intro u w H2 e2 q2 v1 v2
    refine ⟨O, H, x.1, y.1, x.2, y.2, kb, v1, v2, e, kb, rfl, ?_⟩
    cases kb with
    | false =>
      rw [if_neg Bool.false_ne_true]
      rw [if_neg Bool.false_ne_true] at h3
      exact ⟨_, rfl, h3 false H2 rfl e2 q2⟩
    | true =>
      rw [if_pos rfl]
      rw [if_pos rfl] at h3
      refine eOne (r.ext e2 q2) q2 (h3.bind.mono (fun z s4 h4 => ?_) fun c a s' z => wX.ext (s1 := s2) e2 z)
      obtain ⟨z', e5, h5⟩ := h4.of
      obtain ⟨k', e6, e7⟩ := Option.map_eq_some_iff.mp e5
      subst e7
      intro t H4 e4 q4 v4
      exact ⟨O, H, y.1, z.1, y.2, z.2, k', v2.ext r e2 q2 e4 q4, v4.back e2 q2, e6, k', rfl, h5 k' H4 rfl (e2.trans e4) q4⟩
  constructor
  · refine (pe_chain (cmp_ok (S := B.S) hx.units o) (cmp_ok (S := B.S) hx.units o') ha.e hb.e hc.e hm).weak fun σ H Q => ?_
    rintro ⟨env, s, O, r, q, h⟩
    have := key (fun d H' => ∀ v, Rp X.K H' v d → Q v H') σ H env s O r q (h.mono (fun x s' h1 b H' ex e' q' v rv => by subst ex; exact h1 v H' e' q' (by cases rv; exact Rp.bl b)) fun _ _ _ z => z)
    obtain ⟨env', s', O', r', q', h'⟩ := this
    refine ⟨env', s', O', r', q', h'.mono (fun x s1 h1 u H1 e1 q1 v1 => ?_) fun _ _ _ z => z⟩
    obtain ⟨env2, s2, O2, r2, q2, h2⟩ := h1 u H1 e1 q1 v1
    refine ⟨env2, s2, O2, r2, q2, h2.mono (fun y s3 h3 w H2 e2 q3 v2 => ?_) fun _ _ _ z => z⟩
    obtain ⟨A1, A2, A3, A4, A5, A6, A7, a1, a2, a3, kk, a4, a5⟩ := h3 w H2 e2 q3 v2
    refine ⟨A1, A2, A3, A4, A5, A6, A7, a1, a2, a3, kk, a4, ?_⟩
    cases kk with
    | false =>
      rw [if_neg Bool.false_ne_true] at a5 ⊢
      obtain ⟨b', eb, a5⟩ := a5
      rw [eb]
      exact a5 _ (Rp.bl b')
    | true =>
      rw [if_pos rfl] at a5 ⊢
      obtain ⟨env4, s4, O4, r4, q4, h4⟩ := a5
      refine ⟨env4, s4, O4, r4, q4, h4.mono (fun z s5 h5 t H4 e4 q5 v4 => ?_) fun _ _ _ z => z⟩
      obtain ⟨B1, B2, B3, B4, B5, B6, B7, b1, b2, b3, b', eb, b4⟩ := h5 t H4 e4 q5 v4
      refine ⟨B1, B2, B3, B4, B5, B6, B7, b1, b2, b3, ?_⟩
      rw [eb]
      exact b4 _ (Rp.bl b')
  · refine (pt_chain (cmp_ok (S := B.S) hx.units o) (cmp_ok (S := B.S) hx.units o') ha.e hb.e hc.e hm).weak fun σ H Q => ?_
    rintro ⟨env, s, O, r, q, h⟩
    exact key (fun d H' => Q (truth d) H') σ H env s O r q (h.mono (fun x s' h1 b H' ex e' q' => by subst ex; exact h1 H' e' q') fun _ _ _ z => z)
theorem jw_bo1 {op : BoolOp} (ha : JE C X B W a ta) : JW C X B W (.BoolOp op [a] pos) ta := by
  refine ⟨pe_one ha.e, ?_⟩
  cases op with
  | And => exact pw_and1 ha.t
  | Or => exact pw_or1 ha.t
theorem jw_and {rest : List Expr} (ha : JE C X B W a ta) (hb : JW C X B W (.BoolOp .And (b :: rest) pos) tb) : JW C X B W (.BoolOp .And (a :: b :: rest) pos) (.and ta tb) := by
  constructor
  · refine (pe_andT ha.e hb.e).weak fun σ H Q => ?_
    rintro ⟨env, s, O, r, q, h⟩
    unfold evE at h
    refine eOne r q (h.bind.mono (fun x s1 h1 => ?_) fun _ _ _ z => z)
    intro u H1 e1 q1 v1
    refine ⟨_, tru_of v1.rp, ?_⟩
    by_cases hk : truth x.2 = true
    · rw [if_pos hk] at h1 ⊢
      exact ⟨env, s1, O, r.ext e1 q1, q1, h1.mono (fun y s2 h2 w H2 e2 q2 v2 => h2 w H2 (e1.trans e2) q2 (v2.back e1 q1)) fun c a s' z => wX.ext (s1 := s1) e1 z⟩
    · rw [if_neg hk] at h1 ⊢
      exact h1 u H1 e1 q1 v1
  · refine ⟨fun wh pins s σ H Q I h => (pw_and ha.t hb.w).run wh pins s σ H Q I ?_⟩
    obtain ⟨env, s, O, r, q, h⟩ := h
    unfold evE at h
    refine ⟨env, s, O, r, q, h.bind.mono (fun x s1 h1 H1 e1 q1 => ?_) fun _ _ _ z => z⟩
    by_cases hk : truth x.2 = true
    · rw [if_pos hk] at h1
      rw [if_pos hk]
      exact ⟨env, s1, O, r.ext e1 q1, q1, h1.mono (fun y s2 h2 H2 e2 q2 => h2 H2 (e1.trans e2) q2) fun c a s' z => wX.ext (s1 := s1) e1 z⟩
    · rw [if_neg hk] at h1
      rw [if_neg hk]
      have := h1 H1 e1 q1
      rwa [Bool.eq_false_iff.mpr hk] at this
theorem jw_or {rest : List Expr} (ha : JE C X B W a ta) (hb : JW C X B W (.BoolOp .Or (b :: rest) pos) tb) : JW C X B W (.BoolOp .Or (a :: b :: rest) pos) (.or ta tb) := by
  constructor
  · refine (pe_orT ha.e hb.e).weak fun σ H Q => ?_
    rintro ⟨env, s, O, r, q, h⟩
    unfold evE at h
    refine eOne r q (h.bind.mono (fun x s1 h1 => ?_) fun _ _ _ z => z)
    intro u H1 e1 q1 v1
    refine ⟨_, tru_of v1.rp, ?_⟩
    by_cases hk : truth x.2 = true
    · rw [if_pos hk] at h1 ⊢
      exact h1 u H1 e1 q1 v1
    · rw [if_neg hk] at h1 ⊢
      exact ⟨env, s1, O, r.ext e1 q1, q1, h1.mono (fun y s2 h2 w H2 e2 q2 v2 => h2 w H2 (e1.trans e2) q2 (v2.back e1 q1)) fun c a s' z => wX.ext (s1 := s1) e1 z⟩
  · refine ⟨fun wh pins s σ H Q I h => (pw_or ha.t hb.w).run wh pins s σ H Q I ?_⟩
    obtain ⟨env, s, O, r, q, h⟩ := h
    unfold evE at h
    refine ⟨env, s, O, r, q, h.bind.mono (fun x s1 h1 H1 e1 q1 => ?_) fun _ _ _ z => z⟩
    by_cases hk : truth x.2 = true
    · rw [if_pos hk] at h1
      rw [if_pos hk]
      have := h1 H1 e1 q1
      rwa [hk] at this
    · rw [if_neg hk] at h1
      rw [if_neg hk]
      exact ⟨env, s1, O, r.ext e1 q1, q1, h1.mono (fun y s2 h2 H2 e2 q2 => h2 H2 (e1.trans e2) q2) fun c a s' z => wX.ext (s1 := s1) e1 z⟩
theorem je_not (ha : JE C X B W a ta) : JE C X B W (.UnaryOp .Not a pos) (.not ta) := by
  constructor
  · refine (pe_notT ha.e).weak fun σ H Q => ?_
    rintro ⟨env, s, O, r, q, h⟩
    unfold evE at h
    refine eOne r q (h.bind.mono (fun x s1 h1 => ?_) fun _ _ _ z => z)
    intro u H1 e1 q1 v1
    exact ⟨_, tru_of v1.rp, h1 _ H1 e1 q1 (Rp.bl _)⟩
  · refine (pt_not ha.t).weak fun σ H Q => ?_
    rintro ⟨env, s, O, r, q, h⟩
    unfold evE at h
    exact ⟨env, s, O, r, q, h.bind.mono (fun x s1 h1 H1 e1 q1 => h1 H1 e1 q1) fun _ _ _ z => z⟩
theorem je_neg (ha : JE C X B W a ta) : JE C X B W (.UnaryOp .USub a pos) (.neg ta) := by
  refine .of ((pe_un un_neg ha.e).weak fun σ H Q => ?_)
  rintro ⟨env, s, O, r, q, h⟩
  unfold evE at h
  refine eOne r q (h.bind.mono (fun x s1 h1 => ?_) fun _ _ _ z => z)
  intro u H1 e1 q1 v1
  obtain ⟨kd, d⟩ := x
  cases d with
  | int i =>
    obtain rfl := v1.int
    exact ⟨i, rfl, h1 _ H1 e1 q1 (Rp.int _)⟩
  | _ => exact h1.elim
theorem je_ife (hc : JE C X B W c tc) (ha : JE C X B W a ta) (hb : JE C X B W b tb) : JE C X B W (.IfExp c a b pos) (.ife tc ta tb) := by
  constructor
  · refine (pe_ifExp hc.t ha.e hb.e).weak fun σ H Q => ?_
    rintro ⟨env, s, O, r, q, h⟩
    unfold evE at h
    refine ⟨env, s, O, r, q, h.bind.mono (fun x s1 h1 H1 e1 q1 => ?_) fun _ _ _ z => z⟩
    by_cases hk : truth x.2 = true
    all_goals
      first | rw [if_pos hk] at h1 ⊢ | rw [if_neg hk] at h1 ⊢
      exact ⟨env, s1, O, r.ext e1 q1, q1, h1.mono (fun y s2 h2 w H2 e2 q2 v2 => h2 w H2 (e1.trans e2) q2 (v2.back e1 q1)) fun c a s' z => wX.ext (s1 := s1) e1 z⟩
  · refine ⟨fun pins s σ H Q I h => ?_⟩
    obtain ⟨env, s', O, r, q, h⟩ := h
    unfold evE at h
    refine isTrue_IfExp (thn (hc.t.run pins s σ H (fun k H1 => if k = true then tT C X.K B W ta σ H1 Q else tT C X.K B W tb σ H1 Q) I ⟨env, s', O, r, q, h.bind.mono (fun x s1 h1 H1 e1 q1 => ?_) fun _ _ _ z => z⟩) fun k s2 h2 => ?_)
    · by_cases hk : truth x.2 = true
      all_goals
        first | rw [if_pos hk] at h1 ⊢ | rw [if_neg hk] at h1 ⊢
        exact ⟨env, s1, O, r.ext e1 q1, q1, h1.mono (fun y s2 h2 H2 e2 q2 => h2 H2 (e1.trans e2) q2) fun c a s' z => wX.ext (s1 := s1) e1 z⟩
    · obtain ⟨H2, I2, h2⟩ := h2
      cases k with
      | true => exact ha.t.run pins s2 σ H2 Q I2 h2
      | false => exact hb.t.run pins s2 σ H2 Q I2 h2
end
end Tre
/-! Tre6: rows of expressions, displays, places, calls. -/
namespace Tre
open PySem PySem.Spec PyProof.Rows L2

def isStar : Expr → Bool
  | .Starred _ _ => true
  | _ => false
theorem star_cons {e : Expr} {es : List Expr} {env : PySem.Env} (h : isStar e = false) : starEach (e :: es) env = (false, eval e env) :: starEach es env := by
  cases e <;> first | rfl | cases h
theorem star_none {env : PySem.Env} : ∀ {es : List Expr}, es.all (fun e => !isStar e) = true → (starEach es env).all (fun x => !x.1) = true
  | [], _ => rfl
  | e :: es, h => by
    simp only [List.all_cons, Bool.and_eq_true, Bool.not_eq_true'] at h
    rw [star_cons h.1, List.all_cons, star_none h.2] <;> rfl
theorem back_none {pos : Pos} {l : List (Bool × Sem Value)} (h : l.all (fun x => !x.1) = true) : (backTo pos l).any (·.1) = false := by
  unfold backTo
  rw [List.any_map]
  rw [List.all_eq_true] at h
  refine List.any_eq_false.mpr fun x hx => ?_
  have := h x hx
  simpa using this
theorem plain_of {es : List Expr} {env : PySem.Env} {pos : Pos} (h : es.all (fun e => !isStar e) = true) : (backTo pos (starEach es env)).any (·.1) = false := back_none (star_none h)

section
variable {C : Cf} {k : Nat} {fns cns : List Str} {X : Cx} {B : Bx} {W : WX}
/-! ### rows -/
theorem ja_nil : PA X [] (tA C X.K B W .nil) := by
  refine pa_nil.weak fun σ H Q => ?_
  rintro ⟨env, s, O, r, q, h⟩
  exact h [] H (Ex.refl _ _) q trivial
theorem ja_cons {e : Expr} {es : List Expr} {t u : T} (he : JE C X B W e t) (hr : PA X es (tA C X.K B W u)) (hs : isStar e = false) : PA X (e :: es) (tA C X.K B W (.cons t u)) := by
  refine (pa_cons he.e hr (star_cons hs)).weak fun σ H Q => ?_
  rintro ⟨env, s, O, r, q, h⟩
  unfold evA at h
  refine eOne r q (h.bind.mono (fun x s1 h1 => ?_) fun _ _ _ z => z)
  intro v H1 e1 q1 v1
  refine ⟨env, s1, O, r.ext e1 q1, q1, h1.bind.mono (fun xs s2 h2 => ?_) fun c a s' z => wX.ext (s1 := s1) e1 z⟩
  intro vs H2 e2 q2 v2
  exact h2 (v :: vs) H2 (e1.trans e2) q2 ⟨v1.ext r e1 q1 e2 q2, v2.back e1 q1⟩
theorem jg_nil : PA X [] (tG C X.K B W .nil) := by
  refine pa_nil.weak fun σ H Q => ?_
  rintro ⟨env, s, O, r, q, h⟩
  exact h [] H (Ex.refl _ _) q trivial r.dom (fun b z => r.sub _ (r.so b z))
theorem jg_cons {e : Expr} {es : List Expr} {t u : T} (he : JE C X B W e t) (hr : PA X es (tG C X.K B W u)) (hs : isStar e = false) : PA X (e :: es) (tG C X.K B W (.cons t u)) := by
  refine (pa_cons he.e hr (star_cons hs)).weak fun σ H Q => ?_
  rintro ⟨env, s, O, r, q, h⟩
  unfold evG at h
  refine eOne r q (h.bind.mono (fun x s1 h1 => ?_) fun _ _ _ z => z)
  intro v H1 e1 q1 v1
  by_cases hk : x.1 = .peek
  · rw [if_pos hk] at h1; exact h1.elim
  rw [if_neg hk] at h1
  refine ⟨env, s1, O, r.ext e1 q1, q1, h1.bind.mono (fun xs s2 h2 => ?_) fun c a s' z => wX.ext (s1 := s1) e1 z⟩
  intro vs H2 e2 q2 v2 d2 z1
  exact h2 (v :: vs) H2 (e1.trans e2) q2 ⟨(v1.frz r.dom hk).mono ((r.ext e1 q1).hid e2), v2⟩ d2 z1
theorem jg_src {i : Nat} {x : Str} {pos : Pos} {es : List Expr} {u : T} (hN : X.N[i]? = some x) (hv : Vis X.env.scope x) (hd : (x == ("__debug__" : Str)) = false) (hcd : (x == ("__classdict__" : Str)) = false)
    (hr : PA X es (tG C X.K B W u)) : PA X (.Name x pos :: es) (tG C X.K B W (.csrc i u)) := by
  refine (pa_cons (pe_var hN hv hd hcd) hr rfl).weak fun σ H Q => ?_
  rintro ⟨env, s, O, r, q, h⟩
  unfold evG at h
  split at h
  · rename_i e1
    have hi : i < σ.length := by
      rw [← r.len]
      exact (List.getElem?_eq_some_iff.mp e1).1
    have e2 : σ[i]? = some σ[i] := List.getElem?_eq_getElem hi
    have so := r.slots i _ _ e1 e2
    refine ⟨_, by rw [e2, show σ[i] = some (.ref B.S.a1) from so], ?_⟩
    refine ⟨env, s, O, r, q, h.bind.mono (fun xs s2 h2 => ?_) fun _ _ _ z => z⟩
    intro vs H2 e2 q2 v2 d2 z1
    exact h2 _ H2 e2 q2 ⟨rfl, v2⟩ d2 z1
  · exact h.elim

/-! ### displays -/
theorem noPeek_ok {K : PySem.W.Frag} {S : SA} {O : Addr → Prop} {Ha H : Hp} (hO : ∀ a, O a → Ha a ≠ none) : ∀ {vs : List V} {xs : List (Kd × D)} {ds : List D}, VRs K S O Ha H vs xs → noPeek xs = some ds → RpA K (hide H O) vs ds
  | [], [], _, _, e => by cases e; exact .nil
  | v :: vs, (kd, d) :: xs, ds, h, e => by
    unfold noPeek at e
    split at e
    · cases e
    · obtain ⟨ds', e1, e2⟩ := Option.map_eq_some_iff.mp e
      subst e2
      exact .cons (h.1.frz hO (by assumption)) (noPeek_ok hO h.2 e1)
theorem je_tup {es : List Expr} {t : T} {x1 : Nat} {pos : Pos} (h : PA X es (tA C X.K B W t)) : JE C X B W (.Tuple es x1 pos) (.tup t) := by
  refine .of ((pe_tup h).weak fun σ H Q => ?_)
  rintro ⟨env, s, O, r, q, h⟩
  unfold evE at h
  refine ⟨env, s, O, r, q, h.bind.mono (fun xs s1 h1 => ?_) fun _ _ _ z => z⟩
  intro vs H1 e1 q1 v1
  obtain ⟨z, e, h3⟩ := h1.of
  obtain ⟨ds, e2, e3⟩ := Option.bind_eq_some_iff.mp e
  split at e3 <;> cases e3
  have rp := noPeek_ok r.dom v1 e2
  have dm := (r.ext e1 q1).dom
  refine ⟨by rw [rp.len]; assumption, fun p hp => h3 _ _ (e1.trans (Ex.new hp)) (q1.same (same_new hp)) ?_⟩
  exact new_tup (S := B.S) dm hp rp
theorem je_lst {es : List Expr} {t : T} {pos : Pos} (h : PA X es (tA C X.K B W t)) : JE C X B W (.List es pos) (.lst t) := by
  refine .of ((pe_lst h).weak fun σ H Q => ?_)
  rintro ⟨env, s, O, r, q, h⟩
  unfold evE at h
  refine ⟨env, s, O, r, q, h.bind.mono (fun xs s1 h1 => ?_) fun _ _ _ z => z⟩
  intro vs H1 e1 q1 v1
  obtain ⟨z, e, h3⟩ := h1.of
  obtain ⟨ds, e2, e3⟩ := Option.bind_eq_some_iff.mp e
  split at e3 <;> cases e3
  have rp := noPeek_ok r.dom v1 e2
  have dm := (r.ext e1 q1).dom
  refine ⟨by rw [rp.len]; assumption, fun p hp => h3 _ _ (e1.trans (Ex.new hp)) (q1.same (same_new hp)) ?_⟩
  exact (new_lst (S := B.S) dm hp rp).back e1 q1

/-! ### places -/
theorem atI_ok {K : PySem.W.Frag} {H : Hp} {vs : List V} {ds : List D} {i : Int} {d : D} (h : RpA K H vs ds) (e : atI ds i = some d) : ∃ v, atI vs i = some v ∧ Rp K H v d := by
  unfold atI at *
  rw [h.len]
  obtain ⟨j, e1, e2⟩ := Option.bind_eq_some_iff.mp e
  obtain ⟨v, e3, r⟩ := h.get e2
  exact ⟨v, by rw [e1]; exact e3, r⟩
theorem str1_ok {z : Str} {c : Nat} (h : PyData.strOk z = true) (hc : c ∈ z.cps.toList) : PyData.strOk ⟨#[c]⟩ = true := by
  refine strOk_of fun d hd => ?_
  have e : d = c := by simpa using hd
  subst e
  exact okT_of h _ hc
theorem atI_mem {α : Type} {xs : List α} {i : Int} {x : α} (h : atI xs i = some x) : x ∈ xs := by
  unfold atI at h
  obtain ⟨j, _, e⟩ := Option.bind_eq_some_iff.mp h
  exact List.mem_of_getElem? e
theorem ix_ok : IxR X (rV2 X.K B.S fun x y => (subF x y).map fun d => (.frz, d)) := by
  intro value slice pins s σ H u w vu vw Q I ru rw' h hs
  obtain ⟨O, Ha, k1, k2, x, y, kd, z, hO, hx, hy, e, q⟩ := h
  obtain ⟨d, e, e2⟩ := Option.map_eq_some_iff.mp e
  cases e2
  unfold subF at e
  split at e
  · obtain ⟨a, vs, rfl, ea, ra⟩ := hx.list; obtain rfl := hy.int
    obtain ⟨v, e1, rv⟩ := atI_ok ra e
    exact ix_list value slice pins s σ H _ _ vu vw Q I ru rw' ⟨_, _, _, _, rfl, rfl, .of ea, e1, q _ _ (Same.refl _) rv⟩ hs
  · obtain ⟨a, vs, rfl, ea, ra⟩ := hx.tuple; obtain rfl := hy.int
    obtain ⟨v, e1, rv⟩ := atI_ok ra e
    exact ix_tup value slice pins s σ H _ _ vu vw Q I ru rw' ⟨_, _, _, _, rfl, rfl, ea, e1, q _ _ (Same.refl _) rv⟩ hs
  · obtain ⟨c, e1, e2⟩ := Option.map_eq_some_iff.mp e
    subst e2
    obtain ⟨rfl, l1, l2⟩ := hx.str; obtain rfl := hy.int
    exact ix_str value slice pins s σ H _ _ vu vw Q I ru rw' ⟨_, _, _, rfl, rfl, l1, e1, q _ _ (Same.refl _) (Rp.str _ (by show 1 ≤ sizeLine; decide) (str1_ok l2 (atI_mem e1)))⟩ hs
  · cases e
def isSlice : Expr → Bool
  | .Slice .. => true
  | _ => false
theorem plainIx_of {b : Expr} (h : isSlice b = false) : PlainIx b := fun o i => by
  cases b <;> first | rfl | cases h
theorem je_sub {a b : Expr} {ta tb : T} {pos : Pos} (ha : JE C X B W a ta) (hb : JE C X B W b tb) (hs : isSlice b = false) : JE C X B W (.Subscript a b pos) (.sub ta tb) := by
  refine .of ((pe_ix (ix_ok (B := B)) ha.e hb.e (plainIx_of hs)).weak fun σ H Q => ?_)
  rintro ⟨env, s, O, r, q, h⟩
  unfold evE at h
  refine eTwo r q (h.bind.mono (fun x s1 h1 => h1.bind.mono (fun y s2 h2 => ?_) fun _ _ _ z => z) fun _ _ _ z => z)
  obtain ⟨⟨kd, z⟩, e, h3⟩ := h2.of
  intro u w H2 e2 q2 v1 v2
  exact ⟨O, H, x.1, y.1, x.2, y.2, kd, z, (r.ext e2 q2).dom, v1, v2, e, fun v H' m vr => h3 v H' (e2.same m) (q2.same m) (VR.back (H1 := H2) vr e2 q2)⟩
theorem cut_whole (ds : List D) (lo hi : Option Int) (h : HT.sIx ds.length 0 lo = 0 ∧ HT.sIx ds.length ds.length hi = ds.length) : cutD ds lo hi = ds := by
  unfold cutD
  rw [h.1, h.2, List.drop_zero, Nat.sub_zero, List.take_length]
theorem cutS_ok {z : Str} (lo hi : Option Int) (h : PyData.strOk z = true) : PyData.strOk (cutS z lo hi) = true := by
  refine strOk_of fun d hd => okT_of h d ?_
  unfold cutS at hd
  exact List.mem_of_mem_drop (List.mem_of_mem_take (by simpa using hd))
def rVs (K : PySem.W.Frag) (S : SA) : V → Option Int → Option Int → Hp → VK → Prop := fun u lo hi H Q => ∃ (O : Addr → Prop) (Ha : Hp) (k1 : Kd) (x : D) (k : Kd) (z : D), (∀ a, O a → H a ≠ none) ∧ VR K S O Ha H k1 u x ∧ slF x lo hi = some (k, z) ∧
  ∀ v H', Same H H' → VR K S O H H' k v z → Q v H'
theorem sl_ok : SlR X (rVs X.K B.S) := by
  intro pins s σ H u v vl vu lo hi sl Q I ru hsl hlo hhi h
  obtain ⟨O, Ha, k1, x, kd, z, hO, hx, e, q⟩ := h
  unfold slF at e
  split at e
  · cases e
    obtain ⟨a, vs, rfl, ea, ra⟩ := hx.list
    exact sl_list pins s σ H _ v vl vu lo hi sl Q I ru hsl hlo hhi ⟨_, _, rfl, .of ea, fun p hp => q _ _ (same_new hp) (new_lst hO hp (ra.cut lo hi))⟩
  · cases e
    have f := hx.tupleF
    obtain ⟨a, vs, rfl, ea, ra⟩ := hx.tuple
    refine sl_tupA pins s σ H _ v vl vu lo hi sl Q I ru hsl hlo hhi ⟨_, _, rfl, ea, fun wh => ?_, fun _ p hp => q _ _ (same_new hp) (new_tup hO hp (ra.cut lo hi))⟩
    rw [ra.len] at wh
    rw [cut_whole _ _ _ wh] at q
    exact q _ _ (Same.refl _) f
  · cases e
    obtain ⟨rfl, l1, l2⟩ := hx.str
    exact sl_str pins s σ H _ v vl vu lo hi sl Q I ru hsl hlo hhi ⟨_, rfl, l1, q _ _ (Same.refl _) (Rp.str _ (Nat.le_trans (cutS_length _ _ _) l1) (cutS_ok _ _ l2))⟩
  · cases e
theorem jo_none : PO X none (tO C X.K B W .nil) := by
  refine ⟨fun pins s σ H Q I h => po_none.run pins s σ H Q I ?_⟩
  obtain ⟨env, s, O, r, q, h⟩ := h
  exact h H (Ex.refl _ _) q
theorem jo_some {e : Expr} {t u : T} (h : JE C X B W e t) : PO X (some e) (tO C X.K B W (.cons t u)) := by
  refine ⟨fun pins s σ H Q I h' => (po_some h.e).run pins s σ H Q I ?_⟩
  obtain ⟨env, s, O, r, q, h'⟩ := h'
  unfold evO at h'
  refine eOne r q (h'.bind.mono (fun x s1 h1 => ?_) fun _ _ _ z => z)
  intro u H1 e1 q1 v1
  obtain ⟨o, e, h3⟩ := h1.of
  obtain ⟨kd, d⟩ := x
  cases d with
  | int i =>
    obtain rfl := v1.int
    cases e
    exact ⟨i, rfl, h3 H1 e1 q1⟩
  | _ => cases e
theorem je_sl {e : Expr} {lo hi : Option Expr} {t tl th : T} {p2 pos : Pos} (he : JE C X B W e t) (hl : PO X lo (tO C X.K B W tl)) (hh : PO X hi (tO C X.K B W th)) : JE C X B W (.Subscript e (.Slice lo hi none p2) pos) (.sl t tl th) := by
  refine .of ((pe_slice (sl_ok (B := B)) he.e hl hh).weak fun σ H Q => ?_)
  rintro ⟨env, s, O, r, q, h⟩
  unfold evE at h
  refine eOne r q (h.bind.mono (fun x s1 h1 => ?_) fun _ _ _ z => z)
  intro u H1 e1 q1 v1
  refine ⟨env, s1, O, r.ext e1 q1, q1, h1.bind.mono (fun l s2 h2 => ?_) fun c a s' z => wX.ext (s1 := s1) e1 z⟩
  intro H2 e2 q2
  refine ⟨env, s2, O, (r.ext e1 q1).ext e2 q2, q2, h2.bind.mono (fun l' s3 h3 => ?_) fun c a s' z => wX.ext (s1 := s2) (e1.trans e2) z⟩
  intro H3 e3 q3
  obtain ⟨⟨kd, z⟩, e, h4⟩ := h3.of
  have e13 := e1.trans (e2.trans e3)
  exact ⟨O, H, x.1, x.2, kd, z, (r.ext e13 q3).dom, v1.ext r e1 q1 (e2.trans e3) q3, e, fun v H' m vr => h4 v H' (e13.same m) (q3.same m) (VR.back (H1 := H3) vr e13 q3)⟩
theorem je_rev {e : Expr} {t : T} {j : Nat} {p1 p2 p3 pos : Pos} (he : JE C X B W e t) : JE C X B W (.Subscript e (.Slice none none (some (.UnaryOp .USub (.Constant (.int 1) j p1) p2)) p3) pos) (.rev t) := by
  refine .of ((pe_revL he.e).weak fun σ H Q => ?_)
  rintro ⟨env, s, O, r, q, h⟩
  unfold evE at h
  refine eOne r q (h.bind.mono (fun x s1 h1 => ?_) fun _ _ _ z => z)
  intro u H1 e1 q1 v1
  obtain ⟨kd, d⟩ := x
  obtain ⟨z, e, h3⟩ := h1.of
  unfold revF at e
  split at e <;> cases e
  rename_i ed
  subst ed
  obtain ⟨a, vs, rfl, ea, ra⟩ := v1.list
  have dm := (r.ext e1 q1).dom
  exact ⟨_, _, rfl, .of ea, fun p hp => h3 _ _ (e1.trans (Ex.new hp)) (q1.same (same_new hp)) ((new_lst (S := B.S) dm hp ra.rev).back e1 q1)⟩

/-! ### calls -/
theorem je_bi (hx : HX C k fns cns X) {b : BI} {e : Expr} {es : List Expr} {t : T} {p pos : Pos} (hg : Gl X (biN b)) (ha : PA X (e :: es) (tA C X.K B W t)) (hs : (e :: es).all (fun e => !isStar e) = true) :
    JE C X B W (.Call (.Name (biN b) p) (e :: es) [] pos) (.bi b t) := by
  have hm : X.mg (biN b) = none := hx.blt _ (by cases b <;> decide)
  have h2 : isStar e = false := by simpa using (List.all_eq_true.mp hs) e List.mem_cons_self
  have h3 : es.all (fun e => !isStar e) = true := by
    simp only [List.all_cons, Bool.and_eq_true] at hs
    exact hs.2
  have key : PE X (.Call (.Name (biN b) p) (e :: es) [] pos) (tCB (rVn X.K B.S (biF b)) (tA C X.K B W t)) := by
    have ok := bi_ok (S := B.S) hx.guards hx.calm hx.units b
    cases b with
    | len => exact pe_callB ok hg hm (by decide +kernel) ha (he := star_cons h2) (hpl := plain_of h3)
    | abs => exact pe_callB ok hg hm (by decide +kernel) ha (he := star_cons h2) (hpl := plain_of h3)
    | max => exact pe_callB ok hg hm (by decide +kernel) ha (he := star_cons h2) (hpl := plain_of h3)
    | min => exact pe_callB ok hg hm (by decide +kernel) ha (he := star_cons h2) (hpl := plain_of h3)
    | int => exact pe_callTy ok hg hm (by decide +kernel) ha (he := star_cons h2) (hpl := plain_of h3)
    | str => exact pe_callTy ok hg hm (by decide +kernel) ha (he := star_cons h2) (hpl := plain_of h3)
    | repr => exact pe_callB ok hg hm (by decide +kernel) ha (he := star_cons h2) (hpl := plain_of h3)
    | sum => exact pe_callB ok hg hm (by decide +kernel) ha (he := star_cons h2) (hpl := plain_of h3)
    | all => exact pe_callB ok hg hm (by decide +kernel) ha (he := star_cons h2) (hpl := plain_of h3)
    | any => exact pe_callB ok hg hm (by decide +kernel) ha (he := star_cons h2) (hpl := plain_of h3)
    | list => exact pe_callTy ok hg hm (by decide +kernel) ha (he := star_cons h2) (hpl := plain_of h3)
    | tuple => exact pe_callTy ok hg hm (by decide +kernel) ha (he := star_cons h2) (hpl := plain_of h3)
    | sorted => exact pe_callB ok hg hm (by decide +kernel) ha (he := star_cons h2) (hpl := plain_of h3)
  refine .of (key.weak fun σ H Q => ?_)
  rintro ⟨env, s, O, r, q, h⟩
  unfold evE at h
  refine ⟨env, s, O, r, q, h.bind.mono (fun xs s1 h1 => ?_) fun _ _ _ z => z⟩
  intro vs H1 e1 q1 v1
  obtain ⟨⟨kd, z⟩, e, h3⟩ := h1.of
  exact ⟨O, H, xs, kd, z, (r.ext e1 q1).dom, v1, e, fun v H' m vr => h3 v H' (e1.same m) (q1.same m) (VR.back (H1 := H1) vr e1 q1)⟩
theorem je_call (hx : HX C k fns cns X) (hB : B.S.ts = C.ts) (tk : Takes X W) {f : Nat} {x : Str} {e : Expr} {es : List Expr} {t : T} {p pos : Pos} (hf : fns[f]? = some x) (hg : Gl X x) (ha : PA X (e :: es) (tG C X.K B W t)) (hs : (e :: es).all (fun e => !isStar e) = true)
    (hdb : (x == ("__debug__" : Str)) = false) : JE C X B W (.Call (.Name x p) (e :: es) [] pos) (.call f t) := by
  obtain ⟨a, fd, ps, hm, hk, hb, F⟩ := hx.fn f x hf
  have h2 : isStar e = false := by simpa using (List.all_eq_true.mp hs) e List.mem_cons_self
  have h3 : es.all (fun e => !isStar e) = true := by
    simp only [List.all_cons, Bool.and_eq_true] at hs
    exact hs.2
  refine .of ((pe_callG (E := WE W) F hx.guards hx.room hg hm hk hb (fun σ => passAt tk σ) ha hdb (star_cons h2) (plain_of h3)).weak fun σ H Q => ?_)
  rintro ⟨env, s, O, r, q, h⟩
  unfold evE at h
  refine ⟨env, s, O, r, q, h.bind.mono (fun xs s1 h1 => ?_) fun _ _ _ z => z⟩
  intro vs H1 e1 q1 v1 d1 z1
  refine ⟨B.S, O, xs, s1, hB, z1, d1, q1, v1, h1.bind.mono (fun y s2 h2 => ?_) fun c a s' z H' cls d e2 q2 xr => z H' cls d (e1.trans e2) q2 xr⟩
  intro v H2 e2 q2 v2
  exact h2 v H2 (e1.trans e2) q2 (v2.back e1 q1)
theorem je_call0 (hx : HX C k fns cns X) (hB : B.S.ts = C.ts) (tk : Takes X W) {f : Nat} {x : Str} {p pos : Pos} (hf : fns[f]? = some x) (hg : Gl X x) (hdb : (x == ("__debug__" : Str)) = false) : JE C X B W (.Call (.Name x p) [] [] pos) (.call f .nil) := by
  obtain ⟨a, fd, ps, hm, hk, hb, F⟩ := hx.fn f x hf
  refine .of ((pe_callG0 (E := WE W) F hx.guards hx.room hg hm hk hb (fun σ => passAt tk σ) hdb).weak fun σ H Q => ?_)
  rintro ⟨env, s, O, r, q, h⟩
  unfold evE at h
  have h : RQ ((C.Φ f [] s).bind fun r s => .ok (if r.1 then Kd.own else Kd.frz, r.2) s) _ _ := h
  refine ⟨B.S, O, [], s, hB, fun b z => r.sub _ (r.so b z), r.dom, q, trivial, h.bind.mono (fun y s2 h2 => ?_) fun c a s' z => z⟩
  intro v H2 e2 q2 v2
  exact h2 v H2 e2 q2 v2
/-- isinstance(x, T), T a built-in class -/
def kitT (t : String) (x : D) : Option Bool := match x with
  | .none => kitB "NoneType" t
  | .bool _ => kitB "bool" t
  | .int _ => kitB "int" t
  | .str _ => kitB "str" t
  | .list _ => kitB "list" t
  | .tuple _ => kitB "tuple" t
  | .dict _ => kitB "dict" t
theorem kit_isi (t : String) (ht : t = "int" ∨ t = "bool" ∨ t = "str" ∨ t = "tuple" ∨ t = "list" ∨ t = "dict") (x : D) : kitT t x = some (isiF t x) := by
  rcases ht with rfl | rfl | rfl | rfl | rfl | rfl <;> cases x <;> (simp only [kitT, isiF]; decide +kernel)
theorem sqT_ty {K : PySem.W.Frag} {H : Hp} {a : Addr} {vs : List V} (h : SqT K H a vs) : TyX K H (.ref a) (.type "tuple") := by
  rcases h with (h | ⟨o, h⟩) | ⟨o, its, n, h1, h2, _⟩
  · exact .base (.tup h)
  · exact .fTuple h
  · exact .kTuple h1 h2
theorem je_isi (hx : HX C k fns cns X) {t : String} {nm : Str} {a : Expr} {ta : T} {p p2 pos : Pos} (ht : t = "int" ∨ t = "bool" ∨ t = "str" ∨ t = "tuple" ∨ t = "list" ∨ t = "dict") (hn : nm = Str.ofString t) (hg : Gl X "isinstance") (hg2 : Gl X nm)
    (ha : JE C X B W a ta) (hs : isStar a = false) : JE C X B W (.Call (.Name "isinstance" p) [a, .Name nm p2] [] pos) (.isi t ta) := by
  subst hn
  have hm : X.mg "isinstance" = none := hx.blt _ (by decide)
  have hm2 : X.mg (Str.ofString t) = none := hx.blt _ (by rcases ht with rfl | rfl | rfl | rfl | rfl | rfl <;> decide)
  have hv : bootBuiltins (Str.ofString t) = some (.type t) := by rcases ht with rfl | rfl | rfl | rfl | rfl | rfl <;> decide +kernel
  have hb : PE X (.Name (Str.ofString t) p2) (tC (.ty t)) := pe_bltn hg2 hm2 hv rfl (by rcases ht with rfl | rfl | rfl | rfl | rfl | rfl <;> decide) (by rcases ht with rfl | rfl | rfl | rfl | rfl | rfl <;> decide)
  refine .of ((pe_callB call_isi hg hm (by decide +kernel) (pa_cons ha.e (pa_cons hb pa_nil rfl) (star_cons hs)) (he := star_cons hs) (hpl := rfl)).weak fun σ H Q => ?_)
  rintro ⟨env, s, O, r, q, h⟩
  unfold evE at h
  refine eOne r q (h.bind.mono (fun x s1 h1 => ?_) fun _ _ _ z => z)
  intro u H1 e1 q1 v1
  have fin := h1 _ H1 e1 q1 (Rp.bl _)
  have kt := kit_isi t ht x.2
  refine ⟨u, .ty t, ?_⟩
  have rp := v1.rp
  generalize x.2 = d at rp kt fin
  cases rp with
  | non => exact ⟨_, _, _, rfl, .ty t, .base .non, kit_ty kt, fin⟩
  | bl b => exact ⟨_, _, _, rfl, .ty t, .base (.bl b), kit_ty kt, fin⟩
  | int i => exact ⟨_, _, _, rfl, .ty t, .base (.int i), kit_ty kt, fin⟩
  | str z h1 h2 => exact ⟨_, _, _, rfl, .ty t, .base (.str z), kit_ty kt, fin⟩
  | lst h1 h2 => exact ⟨_, _, _, rfl, .ty t, .base (.lst h1), kit_ty kt, fin⟩
  | tup h1 h2 => exact ⟨_, _, _, rfl, .ty t, sqT_ty h1, kit_ty kt, fin⟩

/-! ### sep.join(row) -/
theorem txt_join_ok {sep : Str} (h : okT sep) {ss : List Str} (g : ∀ x ∈ ss, okT x) : okT (Txt.join sep ss) := by
  rw [TL.join_eq]
  exact okT_join sep h ss g
theorem strsIn {K : PySem.W.Frag} {H : Hp} : ∀ {ds : List D} {vs : List V} {ss : List Str}, RpA K H vs ds → strsOf ds = some ss → vs = ss.map V.str ∧ ∀ x ∈ ss, x.length ≤ sizeLine ∧ PyData.strOk x = true
  | [], [], ss, _, e => by cases e; exact ⟨rfl, fun x hx => by simp at hx⟩
  | d :: ds, v :: vs, ss, h, e => by
    cases h with
    | cons h1 h2 =>
      cases d with
      | str b =>
        obtain ⟨r, e1, e2⟩ := Option.map_eq_some_iff.mp e
        subst e2
        obtain ⟨rfl, g⟩ := strsIn h2 e1
        cases h1 with
        | str _ l1 l2 =>
          refine ⟨rfl, fun x hx => ?_⟩
          rcases List.mem_cons.mp hx with rfl | hx
          · exact ⟨l1, l2⟩
          · exact g x hx
      | _ => cases e
theorem okT_to {x : Str} (h : okT x) : PyData.strOk x = true := by
  unfold PyData.strOk
  rw [← Array.all_toList, List.all_eq_true]
  exact fun c hc => decide_eq_true (h c hc)
theorem join_len (sep : Str) : ∀ ss : List Str, (Str.join sep ss).length ≤ (ss.map (·.length)).sum + ss.length * sep.length
  | [] => by simp [Str.join]; rfl
  | [x] => by show x.length ≤ _; simp
  | x :: y :: r => by
    have ih := join_len sep (y :: r)
    show ((x ++ sep) ++ Str.join sep (y :: r)).length ≤ _
    rw [str_len_app, str_len_app]
    simp only [List.map_cons, List.sum_cons, List.length_cons] at ih ⊢
    have : (r.length + 1 + 1) * sep.length = sep.length + (r.length + 1) * sep.length := by rw [Nat.add_comm, Nat.add_mul, Nat.one_mul]
    omega
theorem je_join {o e : Expr} {t u : T} {apos pos : Pos} (ho : JE C X B W o t) (he : JE C X B W e u) (hs : isStar e = false) (hbase : attributeBase o "join" X.env (eval o X.env) = eval o X.env) (hl : (apos.endLine == pos.line) = true) :
    JE C X B W (.Call (.Attribute o "join" apos) [e] [] pos) (.me .join t (.cons u .nil)) := by
  refine .of ((pe_join ho.e he.e (star_cons hs) hbase hl).weak fun σ H Q => ?_)
  rintro ⟨env, s, O, r, q, h⟩
  unfold evE at h
  refine eOne r q (h.bind.mono (fun x s1 h1 => ?_) fun _ _ _ z => z)
  intro v H1 e1 q1 v1
  have r1 := r.ext e1 q1
  obtain ⟨kx, dx⟩ := x
  cases dx with
  | str sep =>
    obtain ⟨rfl, l1, l2⟩ := v1.str
    have h1 : RQ ((evA C.Φ C.G (.cons u .nil) env s1).bind _) _ _ := h1
    unfold evA at h1
    refine ⟨⟨_, rfl⟩, eOne r1 q1 (h1.bind.bind.mono (fun y s2 h2 => ?_) fun _ _ _ z H' cls d e' q' x' => z H' cls d (e1.trans e') q' x')⟩
    intro w H2 e2 q2 v2
    unfold evA at h2
    obtain ⟨z, e3, h3⟩ := RQ.of h2
    obtain ⟨ky, dy⟩ := y
    simp only [List.map_cons, List.map_nil, meF] at e3
    split at e3
    case h_2 => cases e3
    rename_i ss hss
    split at e3
    case isFalse => cases e3
    rename_i hz
    cases e3
    obtain ⟨ds, hd, hss⟩ := Option.bind_eq_some_iff.mp hss
    have fin : ∀ (a : Addr) (ws : List V), RpA X.K (hide H2 O) ws ds → (SqL X.K H2 a ws ∨ SqT X.K H2 a ws) → w = .ref a → ∃ a p, ∃ ys : List Str, V.str sep = .str a ∧ [w] = [.ref p] ∧ (SqL X.K H2 p (ys.map V.str) ∨ SqT X.K H2 p (ys.map V.str)) ∧
        (ys.map (·.length)).sum + ys.length * a.length ≤ 16777216 ∧ Q (.str (Txt.join a ys)) H2 := fun a ws ra ha ea => by
      obtain ⟨rfl, g⟩ := strsIn ra hss
      refine ⟨sep, a, ss, rfl, by rw [ea], ha, hz, h3 _ H2 (e1.trans e2) q2 (Rp.str _ ?_ ?_)⟩
      · rw [TL.join_eq]; exact Nat.le_trans (join_len _ _) (by rw [sizeLine_eq]; exact hz)
      · exact okT_to (txt_join_ok (okT_of l2) fun x hx => okT_of (g x hx).2)
    cases dy with
    | list xs =>
      cases hd
      obtain ⟨a, ws, rfl, ea, ra⟩ := v2.list
      exact fin a ws ra (.inl (.of ea)) rfl
    | tuple xs =>
      cases hd
      obtain ⟨a, ws, rfl, ea, ra⟩ := v2.tuple
      exact fin a ws ra (.inr ea) rfl
    | _ => cases hd
  | _ => exact h1.elim
theorem je_split {o e : Expr} {t u : T} {apos pos : Pos} (ho : JE C X B W o t) (he : JE C X B W e u) (hs : isStar e = false) (hbase : attributeBase o "split" X.env (eval o X.env) = eval o X.env) (hl : (apos.endLine == pos.line) = true) :
    JE C X B W (.Call (.Attribute o "split" apos) [e] [] pos) (.me .split t (.cons u .nil)) := by
  refine .of ((pe_split ho.e he.e (star_cons hs) hbase hl).weak fun σ H Q => ?_)
  rintro ⟨env, s, O, r, q, h⟩
  unfold evE at h
  refine eOne r q (h.bind.mono (fun x s1 h1 => ?_) fun _ _ _ z => z)
  intro v H1 e1 q1 v1
  have r1 := r.ext e1 q1
  obtain ⟨kx, dx⟩ := x
  cases dx with
  | str sep =>
    obtain ⟨rfl, l1, l2⟩ := v1.str
    have h1 : RQ ((evA C.Φ C.G (.cons u .nil) env s1).bind _) _ _ := h1
    unfold evA at h1
    refine ⟨⟨_, rfl⟩, eOne r1 q1 (h1.bind.bind.mono (fun y s2 h2 => ?_) fun _ _ _ z H' cls d e' q' x' => z H' cls d (e1.trans e') q' x')⟩
    intro w H2 e2 q2 v2
    have r2 := r1.ext e2 q2
    unfold evA at h2
    obtain ⟨z, e3, h3⟩ := RQ.of h2
    obtain ⟨ky, dy⟩ := y
    simp only [List.map_cons, List.map_nil, meF] at e3
    cases dy with
    | str b =>
      obtain ⟨rfl, m1, m2⟩ := v2.str
      simp only at e3
      split at e3
      case isFalse => cases e3
      rename_i hz
      cases e3
      refine ⟨sep, b, rfl, rfl, ?_, hz.2.1, fun p hp => h3 _ _ (e1.trans (e2.trans (Ex.new hp))) (q2.same (same_new hp)) ?_⟩
      · have := hz.1
        simp only [beq_eq_false_iff_ne, ne_eq]; omega
      · have g : ∀ x ∈ Txt.split sep b, x.length ≤ sizeLine ∧ PyData.strOk x = true := fun x hx => by
          have := List.all_eq_true.mp hz.2.2.1 x hx
          simp only [Bool.and_eq_true, decide_eq_true_eq] at this
          exact this
        have ra : ∀ ss : List Str, (∀ x ∈ ss, x.length ≤ sizeLine ∧ PyData.strOk x = true) → RpA X.K (hide H2 O) (ss.map V.str) (ss.map .str) := fun ss => by
          induction ss with
          | nil => intro _; exact .nil
          | cons x r ih => intro g; exact .cons (Rp.str x (g x List.mem_cons_self).1 (g x List.mem_cons_self).2) (ih fun y hy => g y (List.mem_cons_of_mem _ hy))
        have n := new_lst (S := B.S) (O := O) r2.dom hp (ra _ g)
        exact VR.back n (e1.trans e2) q2
    | _ => cases e3
  | _ => exact h1.elim
end
end Tre
/-! Tre7: what is walked; targets; comprehensions. -/
namespace Tre
open PySem PySem.Spec PyProof.Rows L2

/-- the heaps in which a walk goes on -/
def Good (S : SA) (O : Addr → Prop) (H1 : Hp) (pk : Bool) (H' : Hp) : Prop := match pk with
  | true => Ex S H1 H'
  | false => ∃ O', Same (hide H1 O) (hide H' O')
def WalkOf (K : PySem.W.Frag) (S : SA) (O : Addr → Prop) (H1 : Hp) (pk : Bool) (J : It) (xs : List D) : Prop := ∃ (G : Hp → Prop) (Y : Nat → Hp → V → Hp → Prop), Walk J xs.length G Y ∧ (∀ H', Good S O H1 pk H' → G H') ∧
  ∀ i x H' H'' O', i < xs.length → Good S O H1 pk H' → Y i H' x H'' → (∀ a, O' a → H' a ≠ none) → Same (hide H1 O) (hide H' O') → ∃ d, xs[i]? = some d ∧ Same H' H'' ∧ Rp K (hide H'' O') x d
def tI (C : Cf) (K : PySem.W.Frag) (B : Bx) (W : WX) (t : T) : TI := fun σ H R => ∃ env s O, B.Rl K O env σ H ∧ SrcR B.S H s ∧ RQ (evI C.Φ C.G t env s) (fun x s' =>
  ∀ H1 J, Ex B.S H H1 → SrcR B.S H1 s' → WalkOf K B.S O H1 x.1 J x.2 → R J H1) (wX C K B W σ H)
theorem _root_.L2.PI.weak {X : Cx} {tg e : Expr} {t t' : TI} (h : PI X tg e t) (m : ∀ σ H Q, t' σ H Q → t σ H Q) : PI X tg e t' := ⟨fun pins s σ H Q I q => h.run pins s σ H Q I (m σ H Q q)⟩

section
variable {K : PySem.W.Frag} {S : SA} {O : Addr → Prop} {Ha H1 : Hp}
/-- a list, a tuple as it stands through a walk -/
theorem good_lst {kd : Kd} {u : V} {ds : List D} (hO : ∀ a, O a → Ha a ≠ none) (h : VR K S O Ha H1 kd u (.list ds)) : ∃ a vs, u = .ref a ∧ H1 a = some (.lst vs) ∧ RpA K (hide H1 O) vs ds ∧ ∀ pk H', (kd = .peek → pk = true) → Good S O H1 pk H' → (pk = true → ¬ S.Out a) → H' a = some (.lst vs) := by
  by_cases hk : kd = .peek
  · subst hk
    obtain ⟨a, vs, ds', rfl, e0, e, p, n1⟩ := h
    cases e0
    refine ⟨a, vs, rfl, e, p, fun pk H' hp hg _ => ?_⟩
    rw [hp rfl] at hg
    exact hg a _ e n1
  · have f := h.frz hO hk
    cases f with
    | lst e1 e2 =>
      refine ⟨_, _, rfl, (hide_some e1).2, e2, fun pk H' hp hg hn => ?_⟩
      cases pk with
      | true => exact hg _ _ (hide_some e1).2 (hn rfl)
      | false =>
        obtain ⟨O', m⟩ := hg
        exact (hide_some (m _ _ e1)).2
theorem peek_nsrc {kd : Kd} {a : Addr} {ds : List D} (hS : ∀ b, S.Out b → O b) (hO : ∀ a, O a → Ha a ≠ none) (h : VR K S O Ha H1 kd (.ref a) (.list ds)) : ¬ S.Out a := by
  cases kd with
  | frz =>
    cases h with
    | lst e1 _ => exact fun z => (hide_some e1).1 (hS _ z)
  | own =>
    obtain ⟨a', vs, ds', e, e0, n, _⟩ := h
    cases e
    exact fun z => hO _ (hS _ z) n
  | peek => obtain ⟨a', vs, ds', e, e0, _, _, n1⟩ := h; cases e; exact n1
theorem good_tup {pk : Bool} {a : Addr} {vs : List V} {H' : Hp} (h : SqT K (hide H1 O) a vs) (hS : ∀ b o, hide H1 O b = some o → ¬ S.Out b) (hg : Good S O H1 pk H') : SqT K H' a vs := by
  cases pk with
  | true =>
    rcases h with (h | ⟨o, h⟩) | h
    · exact .inl (.inl (hg _ _ (hide_some h).2 (hS _ _ h)))
    · exact .inl (.inr ⟨o, hg _ _ (hide_some h).2 (hS _ _ h)⟩)
    · exact .inr h
  | false =>
    obtain ⟨O', m⟩ := hg
    exact Same.sqT same_hide (Same.sqT m h)
theorem hid_nsrc (hS : ∀ b, S.Out b → O b) : ∀ b o, hide H1 O b = some o → ¬ S.Out b := fun b o h z => (hide_some h).1 (hS _ z)
theorem VR.tupH {kd : Kd} {u : V} {ds : List D} (h : VR K S O Ha H1 kd u (.tuple ds)) : ∃ a vs, u = .ref a ∧ SqT K (hide H1 O) a vs ∧ RpA K (hide H1 O) vs ds := by
  cases h.tupleF with
  | tup e1 e2 => exact ⟨_, _, rfl, e1, e2⟩
theorem len_get {α β : Type} {xs : List α} {ys : List β} {i : Nat} {x : α} (h : xs.length = ys.length) (e : xs[i]? = some x) : i < ys.length := by
  rw [← h]; exact (List.getElem?_eq_some_iff.mp e).1
theorem walk_lst {kd : Kd} {a : Addr} {ds : List D} {vs : List V} {pk : Bool} (hr : RpA K (hide H1 O) vs ds) (hg : ∀ H', Good S O H1 pk H' → H' a = some (.lst vs)) : WalkOf K S O H1 pk (Itl K a) ds := by
  refine ⟨fun H' => SqL K H' a vs, YAt vs, hr.len ▸ walk_list, fun H' g => .of (hg H' g), fun i x H' H'' O' hi g y hO m => ?_⟩
  obtain ⟨rfl, e⟩ := y
  obtain ⟨d, e2, rd⟩ := hr.getV e
  exact ⟨d, e2, Same.refl _, rd.mono m⟩
theorem walk_tp {a : Addr} {ds : List D} {vs : List V} {pk : Bool} (hS : ∀ b, S.Out b → O b) (h : SqT K (hide H1 O) a vs) (hr : RpA K (hide H1 O) vs ds) : WalkOf K S O H1 pk (Itt K a) ds := by
  refine ⟨fun H' => SqT K H' a vs, YAt vs, hr.len ▸ walk_tup, fun H' g => good_tup h (hid_nsrc hS) g, fun i x H' H'' O' hi g y hO m => ?_⟩
  obtain ⟨rfl, e⟩ := y
  obtain ⟨d, e2, rd⟩ := hr.getV e
  exact ⟨d, e2, Same.refl _, rd.mono m⟩
theorem walk_sign {z : Str} {pk : Bool} (h : PyData.strOk z = true) : WalkOf K S O H1 pk (Its z) (signsD z) := by
  have hl : (signsD z).length = z.cps.size := by unfold signsD; rw [List.length_map, Array.length_toList]
  refine ⟨fun _ => True, _, hl ▸ walk_str, fun _ _ => trivial, fun i x H' H'' O' hi g y hO m => ?_⟩
  obtain ⟨rfl, c, e, rfl⟩ := y
  refine ⟨.str ⟨#[c]⟩, ?_, Same.refl _, Rp.str _ (by show 1 ≤ sizeLine; decide) (str1_ok h (Array.mem_toList_iff.mpr (Array.mem_of_getElem? e)))⟩
  unfold signsD
  rw [List.getElem?_map, Array.getElem?_toList, e] <;> rfl
theorem walk_rng {lo : Int} {n : Nat} {pk : Bool} : WalkOf K S O H1 pk (Itr lo n) (rngD lo n) := by
  have hl : (rngD lo n).length = n := by unfold rngD; rw [List.length_map, List.length_range]
  refine ⟨fun _ => True, YFn fun i => .int (lo + (i : Nat)), by rw [hl]; exact walk_range, fun _ _ => trivial, fun i x H' H'' O' hi g y hO m => ?_⟩
  obtain ⟨rfl, rfl⟩ := y
  rw [hl] at hi
  refine ⟨.int (lo + i), ?_, Same.refl _, Rp.int _⟩
  unfold rngD
  rw [List.getElem?_map, List.getElem?_range hi] <;> rfl
theorem walk_rngC {lo c : Int} {n : Nat} {pk : Bool} : WalkOf K S O H1 pk (Itc lo c n) (rngCD lo c n) := by
  have hl : (rngCD lo c n).length = n := by unfold rngCD; rw [List.length_map, List.length_range]
  refine ⟨fun _ => True, YFn fun i => .int (lo + (i : Nat) * c), by rw [hl]; exact walk_rangeC, fun _ _ => trivial, fun i x H' H'' O' hi g y hO m => ?_⟩
  obtain ⟨rfl, rfl⟩ := y
  rw [hl] at hi
  refine ⟨.int (lo + (i : Nat) * c), ?_, Same.refl _, Rp.int _⟩
  unfold rngCD
  rw [List.getElem?_map, List.getElem?_range hi] <;> rfl
end

section
variable {C : Cf} {k : Nat} {fns cns : List Str} {X : Cx} {B : Bx} {W : WX} {tg : Expr}
/-! ### an iterator is made -/
theorem iter_lst {pins : List (Addr × Obj)} {σ : L2.St} {H : Hp} {s : Shared} {R : It → Hp → Prop} {a : Addr} {vs : List V} (I : Inv X pins σ H s) (h : SqL X.K H a vs) (q : R (Itl X.K a) H) : wpAny (model X.prog X.w) X.A (pyIter (.ref a)) (PIE X pins σ tg R) X.xe s := by
  obtain ⟨its, rv, p, hz⟩ := I.list h
  exact wpAny_pyIter_list p.isList (pi_one (tk := s.toks) I _ (turn_list a _) ⟨_, Heap.get?_push_size _ rfl, rfl, rfl⟩ q)
theorem iter_tup {pins : List (Addr × Obj)} {σ : L2.St} {H : Hp} {s : Shared} {R : It → Hp → Prop} {a : Addr} {vs : List V} (I : Inv X pins σ H s) (h : SqT X.K H a vs) (q : R (Itt X.K a) H) : wpAny (model X.prog X.w) X.A (pyIter (.ref a)) (PIE X pins σ tg R) X.xe s := by
  obtain ⟨its, rv, p, hz⟩ := I.tuple h
  exact wpAny_pyIter_tuple (show s.heap.IsTuple a its.toArray from p) (pi_one (tk := s.toks) I _ (turn_tuple a _) ⟨_, Heap.get?_push_size _ rfl, rfl, rfl⟩ q)
theorem iter_str {pins : List (Addr × Obj)} {σ : L2.St} {H : Hp} {s : Shared} {R : It → Hp → Prop} {x : Str} {t : Tok} (I : Inv X pins σ H s) (q : R (Its x) H) : wpAny (model X.prog X.w) X.A (pyIter (.str x t)) (PIE X pins σ tg R) X.xe s := by
  cases ha : x.cps.all (· < 128) with
  | false => exact wpAny_pyIter_wide ha (pi_one (tk := s.toks) I _ (turn_str _ x t "str_iterator" (.inr rfl)) ⟨_, Heap.get?_push_size _ rfl, rfl, rfl⟩ q)
  | true => exact wpAny_pyIter_ascii ha (pi_one (tk := s.toks) I _ (turn_str _ x t "str_ascii_iterator" (.inl rfl)) ⟨_, Heap.get?_push_size _ rfl, rfl, rfl⟩ q)
theorem ji_it {e : Expr} {t : T} (he : JE C X B W e t) : PI X tg e (tI C X.K B W (.it t)) := by
  constructor
  intro pins s σ H R I h
  obtain ⟨env, sr, O, r, q, h⟩ := h
  unfold evI at h
  refine thn (he.e.run pins s σ H (fun u H1 => ∃ x : Kd × D, ∃ s1, Ex B.S H H1 ∧ SrcR B.S H1 s1 ∧ VR X.K B.S O H H1 x.1 u x.2 ∧ RQ (Tre.R.of ((itF x.2).map fun xs => (decide (x.1 = .peek), xs)) s1) (fun x s' => ∀ H1 J, Ex B.S H H1 → SrcR B.S H1 s' → WalkOf X.K B.S O H1 x.1 J x.2 → R J H1) (wX C X.K B W σ H)) I
    ⟨env, sr, O, r, q, h.bind.mono (fun x s1 h1 u H1 e1 q1 v1 => ⟨x, s1, e1, q1, v1, h1⟩) fun _ _ _ z => z⟩) ?_
  rintro v s1 ⟨u, H1, I1, ru, ⟨kd, d⟩, s2, e1, q1, v1, h1⟩
  obtain ⟨y, e2, h2⟩ := h1.of
  obtain ⟨ds, e3, e4⟩ := Option.map_eq_some_iff.mp e2
  subst e4
  have hS : ∀ b, B.S.Out b → O b := fun b z => r.sub _ (r.so b z)
  unfold itF at e3
  split at e3
  · rename_i ed
    cases e3
    have ed : d = .list ds := ed
    subst ed
    obtain ⟨a, vs, rfl, ea, ra, gd⟩ := good_lst r.dom v1
    have nn := peek_nsrc hS r.dom v1
    cases ru
    exact iter_lst I1 (.of ea) (h2 H1 _ e1 q1 (walk_lst (kd := kd) ra fun H' g => gd _ H' (fun z => decide_eq_true z) g fun _ => nn))
  · rename_i ed
    cases e3
    have ed : d = .tuple ds := ed
    subst ed
    obtain ⟨a, vs, rfl, ea, ra⟩ := VR.tupH v1
    cases ru
    exact iter_tup I1 (Same.sqT same_hide ea) (h2 H1 _ e1 q1 (walk_tp hS ea ra))
  · rename_i ed
    cases e3
    rename_i z
    have ed : d = .str z := ed
    subst ed
    obtain ⟨rfl, l1, l2⟩ := v1.str
    obtain ⟨t, rfl⟩ := ru
    exact iter_str I1 (h2 H1 _ e1 q1 (walk_sign l2))
  · cases e3
theorem ji_rng1 (hx : HX C k fns cns X) {e : Expr} {t : T} {p pos : Pos} (hg : Gl X "range") (he : JE C X B W e t) (hs : isStar e = false) : PI X tg (.Call (.Name "range" p) [e] [] pos) (tI C X.K B W (.rng (.cons t .nil))) := by
  refine (pi_range1 hg (hx.blt _ (by decide)) (ja_cons he ja_nil hs) (star_cons hs)).weak fun σ H R => ?_
  rintro ⟨env, s, O, r, q, h⟩
  unfold evI evA at h
  refine ⟨env, s, O, r, q, ?_⟩
  unfold evA
  refine RQ.unbind (h.bind.bind.mono (fun x s1 h1 => ?_) fun _ _ _ z => z)
  intro vs H1 e1 q1 v1
  obtain ⟨y, e2, h2⟩ := RQ.of h1
  obtain ⟨ds, e3, e4⟩ := Option.map_eq_some_iff.mp e2
  subst e4
  obtain ⟨u, kd, rfl, rr⟩ := vrs1 v1 rfl
  obtain ⟨kx, d⟩ := x
  unfold rngF at e3
  split at e3
  · rename_i ed
    split at e3 <;> cases e3
    rename_i hj
    unfold okR at hj
    simp only [Bool.and_eq_true, decide_eq_true_eq] at hj
    cases ed
    obtain rfl := rr.int
    exact ⟨_, rfl, hj.1, hj.2, h2 H1 _ e1 q1 walk_rng⟩
  · rename_i ed
    cases ed
  · cases e3
theorem ji_rng2 (hx : HX C k fns cns X) {e e' : Expr} {t t' : T} {p pos : Pos} (hg : Gl X "range") (he : JE C X B W e t) (he' : JE C X B W e' t') (hs : isStar e = false) (hs' : isStar e' = false) : PI X tg (.Call (.Name "range" p) [e, e'] [] pos) (tI C X.K B W (.rng (.cons t (.cons t' .nil)))) := by
  refine (pi_range2 hg (hx.blt _ (by decide)) (ja_cons he (ja_cons he' ja_nil hs') hs) (by rw [star_cons hs, star_cons hs'] <;> rfl) (by rw [star_cons hs'] <;> rfl)).weak fun σ H R => ?_
  rintro ⟨env, s, O, r, q, h⟩
  unfold evI evA evA at h
  refine ⟨env, s, O, r, q, ?_⟩
  unfold evA evA
  refine RQ.unbind (h.bind.bind.mono (fun x s1 h1 => RQ.unbind (RQ.unbind (h1.bind.bind.mono (fun x' s2 h2 => ?_) fun _ _ _ z => z))) fun _ _ _ z => z)
  intro vs H1 e1 q1 v1
  obtain ⟨y, e2, h3⟩ := RQ.of h2
  obtain ⟨ds, e3, e4⟩ := Option.map_eq_some_iff.mp e2
  subst e4
  obtain ⟨u, u', kd, kd', rfl, rr, rr'⟩ := vrs2 v1 rfl
  obtain ⟨kx, d⟩ := x
  obtain ⟨kx', d'⟩ := x'
  unfold rngF at e3
  split at e3
  · rename_i ed
    cases ed
  · rename_i ed
    split at e3 <;> cases e3
    rename_i hj
    unfold okR at hj
    simp only [Bool.and_eq_true, decide_eq_true_eq] at hj
    cases ed
    obtain rfl := rr.int
    obtain rfl := rr'.int
    exact ⟨_, _, rfl, ⟨hj.1.1, hj.1.2, hj.2.1, hj.2.2⟩, h3 H1 _ e1 q1 walk_rng⟩
  · cases e3
theorem walk_revT {K : PySem.W.Frag} {a : Addr} {xs : List V} : Walk (RT.ItvT K a xs.length) xs.length (fun H => SqT K H a xs) (fun i H x H' => H' = H ∧ xs[xs.length - 1 - i]? = some x) where
  goes := fun i H hi g => ⟨hi, xs, xs[xs.length - 1 - i], g, List.getElem?_eq_getElem (by omega)⟩
  stops := fun H g => Nat.le_refl _
  yields := fun i H x H' hi g y => ⟨y.1, y.2 xs g⟩
theorem getrev {α : Type} {xs : List α} {i : Nat} (hi : i < xs.length) : xs.reverse[i]? = xs[xs.length - 1 - i]? := by
  rw [List.getElem?_reverse hi]
theorem ji_rvd (hx : HX C k fns cns X) {e : Expr} {t : T} {p pos : Pos} (hg : Gl X "reversed") (he : JE C X B W e t) (hs : isStar e = false) : PI X tg (.Call (.Name "reversed" p) [e] [] pos) (tI C X.K B W (.rvd t)) := by
  refine (RT.pi_revA hg (hx.blt _ (by decide)) he.e (star_cons hs)).weak fun σ H R => ?_
  rintro ⟨env, s, O, r, q, h⟩
  unfold evI at h
  refine eOne r q (h.bind.mono (fun x s1 h1 => ?_) fun _ _ _ z => z)
  intro u H1 e1 q1 v1
  obtain ⟨y, e2, h2⟩ := h1.of
  obtain ⟨ds, e3, e4⟩ := Option.map_eq_some_iff.mp e2
  subst e4
  have hS : ∀ b, B.S.Out b → O b := fun b z => r.sub _ (r.so b z)
  obtain ⟨kd, d⟩ := x
  unfold itemsOf at e3
  split at e3
  · rename_i ed
    cases e3
    have ed : d = .list ds := ed
    subst ed
    obtain ⟨a, vs, rfl, ea, ra, gd⟩ := good_lst r.dom v1
    have nn := peek_nsrc hS r.dom v1
    refine ⟨a, vs, rfl, .inl ⟨.of ea, h2 H1 _ e1 q1 ?_⟩⟩
    refine ⟨fun H' => SqL X.K H' a vs, fun i H x H' => H' = H ∧ vs[vs.length - 1 - i]? = some x, by show Walk _ ds.reverse.length _ _; rw [List.length_reverse, ← ra.len]; exact walk_rev, fun H' g => .of (gd _ H' (fun z => decide_eq_true z) g fun _ => nn), fun i x H' H'' O' hi g y hO m => ?_⟩
    obtain ⟨rfl, e⟩ := y
    obtain ⟨d, e2, rd⟩ := ra.getV e
    refine ⟨d, ?_, Same.refl _, rd.mono m⟩
    have hi : i < ds.reverse.length := hi
    rw [List.length_reverse] at hi
    rw [getrev hi, ← ra.len]
    exact e2
  · rename_i ed
    cases e3
    have ed : d = .tuple ds := ed
    subst ed
    obtain ⟨a, vs, rfl, ea, ra⟩ := VR.tupH v1
    refine ⟨a, vs, rfl, .inr ⟨Same.sqT same_hide ea, h2 H1 _ e1 q1 ?_⟩⟩
    refine ⟨fun H' => SqT X.K H' a vs, fun i H x H' => H' = H ∧ vs[vs.length - 1 - i]? = some x, by show Walk _ ds.reverse.length _ _; rw [List.length_reverse, ← ra.len]; exact walk_revT, fun H' g => good_tup ea (hid_nsrc hS) g, fun i x H' H'' O' hi g y hO m => ?_⟩
    obtain ⟨rfl, e⟩ := y
    obtain ⟨d, e2, rd⟩ := ra.getV e
    refine ⟨d, ?_, Same.refl _, rd.mono m⟩
    have hi : i < ds.reverse.length := hi
    rw [List.length_reverse] at hi
    rw [getrev hi, ← ra.len]
    exact e2
  · cases e3
theorem ji_rvr1 (hx : HX C k fns cns X) {e : Expr} {t : T} {p p2 pos pos2 : Pos} (hg : Gl X "reversed") (hg2 : Gl X "range") (he : JE C X B W e t) (hs : isStar e = false) :
    PI X tg (.Call (.Name "reversed" p) [.Call (.Name "range" p2) [e] [] pos2] [] pos) (tI C X.K B W (.rvr (.cons t .nil))) := by
  refine (pi_revR hg (hx.blt _ (by decide)) (prg_1 hg2 (hx.blt _ (by decide)) he.e (star_cons hs)) rfl).weak fun σ H R => ?_
  rintro ⟨env, s, O, r, q, h⟩
  unfold evI evA at h
  refine eOne r q (h.bind.bind.mono (fun x s1 h1 => ?_) fun _ _ _ z => z)
  intro u H1 e1 q1 v1
  obtain ⟨y, e2, h2⟩ := RQ.of h1
  obtain ⟨ds, e3, e4⟩ := Option.map_eq_some_iff.mp e2
  subst e4
  obtain ⟨kd, d⟩ := x
  unfold rvrF at e3
  split at e3
  · rename_i ed
    split at e3 <;> cases e3
    rename_i hj
    unfold okR at hj
    simp only [Bool.and_eq_true, decide_eq_true_eq] at hj
    cases ed
    obtain rfl := v1.int
    rename_i j
    refine ⟨j, rfl, by omega, by omega, hj.1, hj.2, ?_⟩
    have e5 : (j - 0).toNat = j.toNat := by rw [Int.sub_zero]
    have e6 : (0 : Int) + (((j - 0).toNat : Nat) : Int) - 1 = ((j.toNat : Nat) : Int) - 1 := by rw [e5]; omega
    rw [e6, e5]
    exact h2 H1 _ e1 q1 walk_rngC
  · rename_i ed
    cases ed
  · cases e3
/-! ### enumerate -/
theorem enuD_len : ∀ (xs : List D) (j : Nat), (enuD j xs).length = xs.length
  | [], _ => rfl
  | x :: xs, j => by show (enuD (j + 1) xs).length + 1 = xs.length + 1; rw [enuD_len xs]
theorem enuD_get : ∀ (xs : List D) (j i : Nat) (d : D), xs[i]? = some d → (enuD j xs)[i]? = some (.tuple [.int ((j + i : Nat) : Int), d])
  | x :: xs, j, 0, d, h => by cases h; rfl
  | x :: xs, j, i + 1, d, h => by
    have := enuD_get xs (j + 1) i d (by simpa using h)
    have e : j + 1 + i = j + (i + 1) := by omega
    rw [e] at this
    simpa [enuD] using this
theorem walk_enuL {K : PySem.W.Frag} {S : SA} {O : Addr → Prop} {H1 : Hp} {a : Addr} {ds : List D} {vs : List V} {pk : Bool} (hr : RpA K (hide H1 O) vs ds) (hg : ∀ H', Good S O H1 pk H' → H' a = some (.lst vs)) : WalkOf K S O H1 pk (Ite K a) (enuD 0 ds) := by
  refine ⟨fun H' => SqL K H' a vs, fun i H v H' => ∃ T x, v = .ref T ∧ H T = none ∧ H' = upd H T (.tup [.int (i : Nat), x]) ∧ vs[i]? = some x, ⟨fun i H hi g => ?_, fun H g => ?_, fun i H x H' hi g y => ?_⟩, fun H' g => .of (hg H' g), fun i x H' H'' O' hi g y hO m => ?_⟩
  · rw [enuD_len, ← hr.len] at hi
    exact ⟨vs, vs[i], g, List.getElem?_eq_getElem hi⟩
  · exact ⟨vs, g, by rw [enuD_len, ← hr.len]; exact Nat.le_refl _⟩
  · obtain ⟨T, z, e1, e2, e3, e4⟩ := y
    exact ⟨T, z, e1, e2, e3, e4 vs g⟩
  · obtain ⟨T, z, rfl, e2, rfl, e4⟩ := y
    obtain ⟨d, e5, rd⟩ := hr.getV e4
    refine ⟨_, enuD_get ds 0 i d e5, same_new e2, ?_⟩
    rw [Nat.zero_add]
    exact new_tup (S := S) hO e2 (.cons (Rp.int _) (.cons (rd.mono m) .nil))
/-- the signs of a text, each in a new pair -/
def ItS (z : Str) : It :=
  ⟨fun i _ => i < z.cps.size, fun i H v H' => ∃ T c, v = .ref T ∧ H T = none ∧ H' = upd H T (.tup [.int (i : Nat), .str ⟨#[c]⟩]) ∧ z.cps[i]? = some c, fun i _ => z.cps.size ≤ i⟩
theorem turn_enumS {P : Program} {w : World} {K : PySem.W.Frag} {elts : List Expr} {kk : Nat} {tpos : Pos} (e it : Addr) (z : Str) (t : Tok) (T : String) (hT : T = "str_ascii_iterator" ∨ T = "str_iterator") :
    Turn P w K (.Tuple elts kk tpos) (ItS z) [e, it] e (fun i h => i ≤ z.cps.size ∧ (∃ old, IsEnum h e it ((i : Nat) : Int) old) ∧ h.IsStrIter it T z t i ∧ e ≠ it) where
  mem := by simp
  obj := fun i h st b hb => by
    obtain ⟨_, ⟨old, he⟩, ⟨o, ho, hc, hd⟩, _⟩ := st
    have e' : b = e ∨ b = it := by simpa using hb
    rcases e' with z | z
    · rw [z]; exact ⟨_, he, fun v q => nomatch q⟩
    · rw [z]; exact ⟨o, ho, fun v q => by rw [hd] at q; cases q⟩
  keep := fun i h h' st k => let ⟨hl, ⟨old, he⟩, ⟨o, ho, r⟩, hne⟩ := st; ⟨hl, ⟨old, k e (by simp) _ he⟩, ⟨o, k it (by simp) o ho, r⟩, hne⟩
  item := by
    intro X hP hw hK hc i pins s σ H E I hf st hg
    subst hP hw hK
    obtain ⟨hl, ⟨old, he⟩, hit, hne⟩ := st
    have hg : i < z.cps.size := hg
    have hel : e < s.heap.objs.size := Heap.lt_size he
    have hil : it < s.heap.objs.size := by obtain ⟨_, q, _⟩ := hit; exact Heap.lt_size q
    have D : Draws X.prog X.w X.A.in1 it [it] z.cps.size (fun i v => ∃ c u, z.cps[i]? = some c ∧ v = .str ⟨#[c]⟩ u) (fun i h => h.IsStrIter it T z t i) := by
      rcases hT with rfl | rfl
      · exact Draws.strAscii (A := X.A.in1) (I.ok.hd hc) it z t
      · exact Draws.strWide (A := X.A.in1) (I.ok.hd hc) it z t
    refine wpAny_pyNext_enum_itemD D he hit hg hne (by simpa using hne) fun x h' tk hx ho hit' hT' hsz hk => ?_
    obtain ⟨c, u, hcx, rfl⟩ := hx
    refine ⟨_, rfl, wpAny_letOwnedTupleGo_enum (s := { s with heap := h', toks := tk + 1 }) ho fun h'' he' sb => ?_⟩
    have hT2 : h''.get? s.heap.objs.size = some { cls := .type "tuple", data := .seq #[.int i tk, .str ⟨#[c]⟩ u] } := (sb.2 _ (Nat.ne_of_gt hel)).trans hT'
    have new : ObjOk X.prog X.w (upd H s.heap.objs.size (.tup [.int (i : Nat), .str ⟨#[c]⟩])) h'' s.heap.objs.size (.tup [.int (i : Nat), .str ⟨#[c]⟩]) :=
      ⟨by show 2 ≤ sizeLine; decide, [.int i tk, .str ⟨#[c]⟩ u], .cons ⟨_, rfl⟩ (.cons ⟨_, rfl⟩ .nil), ⟨_, hT2, rfl, _, rfl⟩⟩
    have I1 : Inv X pins σ (upd H s.heap.objs.size (.tup [.int (i : Nat), .str ⟨#[c]⟩])) { s with heap := h'', toks := tk + 1 } :=
      I.turnedNew (ch := [e, it]) (fun b ob hb q => (sb.2 b (fun z => hb (by simp [z]))).trans (hk b ob (fun z => hb (by simp [z])) (fun z => hb (by simp [z])) q)) hf (Nat.le_refl _) new
    refine ⟨.ref s.heap.objs.size, _, I1, rfl, ⟨_, c, rfl, I.hok.fresh (Nat.le_refl _), rfl, hcx⟩, ⟨hg, ⟨.str ⟨#[c]⟩ u, ?_⟩, ?_, hne⟩, fun b hb => ?_⟩
    · have e1 : ((i + 1 : Nat) : Int) = (i : Int) + 1 := by omega
      rw [e1]; exact he'
    · obtain ⟨o, ho, r⟩ := hit'
      exact ⟨o, (sb.2 it (Ne.symm hne)).trans ho, r⟩
    · have hb' : b < s.heap.objs.size := by
        have e' : b = e ∨ b = it := by simpa using hb
        rcases e' with z | z
        · rw [z]; exact hel
        · rw [z]; exact hil
      rw [upd_ne (Nat.ne_of_lt hb')]
      exact (hf b hb).1
  done := by
    intro X hP hw hK hc i pins s σ H E I hf st hg
    subst hP hw hK
    obtain ⟨hl, ⟨old, he⟩, hit, hne⟩ := st
    have hg : z.cps.size ≤ i := hg
    have hi : i = z.cps.size := Nat.le_antisymm hl hg
    subst hi
    obtain ⟨f0, f1, f2, f3, f4, f5⟩ := hf it (by simp)
    have D : Draws X.prog X.w X.A.in1 it [it] z.cps.size (fun i v => ∃ c u, z.cps[i]? = some c ∧ v = .str ⟨#[c]⟩ u) (fun i h => h.IsStrIter it T z t i) := by
      rcases hT with rfl | rfl
      · exact Draws.strAscii (A := X.A.in1) (I.ok.hd hc) it z t
      · exact Draws.strWide (A := X.A.in1) (I.ok.hd hc) it z t
    exact wpAny_pyNext_enum_endD D he hit fun h' eb => ⟨rfl, I.turned (t' := s.toks) (fun b o hb q => eb b o hb q) f0 f1 f3 f4 f5⟩
  self := fun A i s Q E st h => let ⟨_, ⟨_, he⟩, _⟩ := st; wpAny_pyIter_enum he h
theorem walk_enuS {K : PySem.W.Frag} {S : SA} {O : Addr → Prop} {H1 : Hp} {z : Str} {pk : Bool} (h : PyData.strOk z = true) : WalkOf K S O H1 pk (ItS z) (enuD 0 (signsD z)) := by
  have hl : (signsD z).length = z.cps.size := by unfold signsD; rw [List.length_map, Array.length_toList]
  refine ⟨fun _ => True, fun i H v H' => ∃ T c, v = .ref T ∧ H T = none ∧ H' = upd H T (.tup [.int (i : Nat), .str ⟨#[c]⟩]) ∧ z.cps[i]? = some c, ⟨fun i H hi g => ?_, fun H g => ?_, fun i H x H' hi g y => y⟩, fun H' g => trivial, fun i x H' H'' O' hi g y hO m => ?_⟩
  · rw [enuD_len, hl] at hi; exact hi
  · show _ ≤ _
    rw [enuD_len, hl]; exact Nat.le_refl _
  · obtain ⟨T, c, rfl, e2, rfl, e4⟩ := y
    have e5 : (signsD z)[i]? = some (.str ⟨#[c]⟩) := by
      unfold signsD
      rw [List.getElem?_map, Array.getElem?_toList, e4] <;> rfl
    refine ⟨_, enuD_get _ 0 i _ e5, same_new e2, ?_⟩
    rw [Nat.zero_add]
    exact new_tup (S := S) hO e2 (.cons (Rp.int _) (.cons (Rp.str _ (by show 1 ≤ sizeLine; decide) (str1_ok h (Array.mem_toList_iff.mpr (Array.mem_of_getElem? e4)))) .nil))
theorem walk_enuT {K : PySem.W.Frag} {S : SA} {O : Addr → Prop} {H1 : Hp} {a : Addr} {ds : List D} {vs : List V} {pk : Bool} (hS : ∀ b, S.Out b → O b) (h : SqT K (hide H1 O) a vs) (hr : RpA K (hide H1 O) vs ds) : WalkOf K S O H1 pk (IteT K a vs.length) (enuD 0 ds) := by
  refine ⟨fun H' => SqT K H' a vs, fun i H v H' => ∃ T x, v = .ref T ∧ H T = none ∧ H' = upd H T (.tup [.int (i : Nat), x]) ∧ vs[i]? = some x, ⟨fun i H hi g => ?_, fun H g => ?_, fun i H x H' hi g y => ?_⟩, fun H' g => good_tup h (hid_nsrc hS) g, fun i x H' H'' O' hi g y hO m => ?_⟩
  · rw [enuD_len, ← hr.len] at hi
    exact ⟨vs, vs[i], g, List.getElem?_eq_getElem hi, rfl⟩
  · exact ⟨vs, g, rfl, by rw [enuD_len, ← hr.len]; exact Nat.le_refl _⟩
  · obtain ⟨T, z, e1, e2, e3, e4⟩ := y
    exact ⟨T, z, e1, e2, e3, e4 vs g⟩
  · obtain ⟨T, z, rfl, e2, rfl, e4⟩ := y
    obtain ⟨d, e5, rd⟩ := hr.getV e4
    refine ⟨_, enuD_get ds 0 i d e5, same_new e2, ?_⟩
    rw [Nat.zero_add]
    exact new_tup (S := S) hO e2 (.cons (Rp.int _) (.cons (rd.mono m) .nil))
/-! ### zip -/
theorem zipD_get : ∀ (xs ys : List D) (i : Nat) (x y : D), xs[i]? = some x → ys[i]? = some y → (zipD xs ys)[i]? = some (.tuple [x, y])
  | x :: xs, y :: ys, 0, a, b, h, g => by cases h; cases g; rfl
  | x :: xs, y :: ys, i + 1, a, b, h, g => zipD_get xs ys i a b (by simpa using h) (by simpa using g)
theorem zipD_len : ∀ (xs ys : List D), (zipD xs ys).length = Nat.min xs.length ys.length
  | [], _ => by simp [zipD, Nat.min_def]
  | _ :: _, [] => by simp [zipD, Nat.min_def]
  | x :: xs, y :: ys => by
    show (zipD xs ys).length + 1 = _
    rw [zipD_len xs ys]
    show Nat.min _ _ + 1 = Nat.min (xs.length + 1) (ys.length + 1)
    simp only [Nat.min_def]
    split <;> split <;> omega
theorem walk_zipT {K : PySem.W.Frag} {S : SA} {O : Addr → Prop} {H1 : Hp} {a b : Addr} {ds es : List D} {vs us : List V} {pk : Bool} (hS : ∀ b, S.Out b → O b) (h : SqT K (hide H1 O) a vs) (hr : RpA K (hide H1 O) vs ds) (h' : SqT K (hide H1 O) b us) (hr' : RpA K (hide H1 O) us es) :
    WalkOf K S O H1 pk (RZ.ItzT K a b) (zipD ds es) := by
  refine ⟨fun H' => SqT K H' a vs ∧ SqT K H' b us, fun i H v H' => ∃ T x y, v = .ref T ∧ H T = none ∧ H' = upd H T (.tup [x, y]) ∧ vs[i]? = some x ∧ us[i]? = some y, ⟨fun i H hi g => ?_, fun H g => ?_, fun i H x H' hi g y => ?_⟩, fun H' g => ⟨good_tup h (hid_nsrc hS) g, good_tup h' (hid_nsrc hS) g⟩, fun i x H' H'' O' hi g y hO m => ?_⟩
  · rw [zipD_len, ← hr.len, ← hr'.len] at hi
    have h1 : i < vs.length := Nat.lt_of_lt_of_le hi (Nat.min_le_left _ _)
    have h2 : i < us.length := Nat.lt_of_lt_of_le hi (Nat.min_le_right _ _)
    exact ⟨vs, us, vs[i], us[i], g.1, g.2, List.getElem?_eq_getElem h1, List.getElem?_eq_getElem h2⟩
  · refine ⟨vs, us, g.1, g.2, ?_⟩
    rw [zipD_len, ← hr.len, ← hr'.len]
    simp only [Nat.min_def]
    split <;> omega
  · obtain ⟨T, z, w, e1, e2, e3, e4, e5⟩ := y
    exact ⟨T, z, w, e1, e2, e3, e4 vs g.1, e5 us g.2⟩
  · obtain ⟨T, z, w, rfl, e2, rfl, e4, e5⟩ := y
    obtain ⟨d, e6, rd⟩ := hr.getV e4
    obtain ⟨d', e7, rd'⟩ := hr'.getV e5
    exact ⟨_, zipD_get ds es i d d' e6 e7, same_new e2, new_tup (S := S) hO e2 (.cons (rd.mono m) (.cons (rd'.mono m) .nil))⟩
theorem walk_zipL {K : PySem.W.Frag} {S : SA} {O : Addr → Prop} {H1 : Hp} {a b : Addr} {ds es : List D} {vs us : List V} {pk : Bool} (hr : RpA K (hide H1 O) vs ds) (hg : ∀ H', Good S O H1 pk H' → H' a = some (.lst vs)) (hr' : RpA K (hide H1 O) us es) (hg' : ∀ H', Good S O H1 pk H' → H' b = some (.lst us)) :
    WalkOf K S O H1 pk (Itz K a b) (zipD ds es) := by
  refine ⟨fun H' => SqL K H' a vs ∧ SqL K H' b us, fun i H v H' => ∃ T x y, v = .ref T ∧ H T = none ∧ H' = upd H T (.tup [x, y]) ∧ vs[i]? = some x ∧ us[i]? = some y, ⟨fun i H hi g => ?_, fun H g => ?_, fun i H x H' hi g y => ?_⟩, fun H' g => ⟨.of (hg H' g), .of (hg' H' g)⟩, fun i x H' H'' O' hi g y hO m => ?_⟩
  · rw [zipD_len, ← hr.len, ← hr'.len] at hi
    have h1 : i < vs.length := Nat.lt_of_lt_of_le hi (Nat.min_le_left _ _)
    have h2 : i < us.length := Nat.lt_of_lt_of_le hi (Nat.min_le_right _ _)
    exact ⟨vs, us, vs[i], us[i], g.1, g.2, List.getElem?_eq_getElem h1, List.getElem?_eq_getElem h2⟩
  · refine ⟨vs, us, g.1, g.2, ?_⟩
    rw [zipD_len, ← hr.len, ← hr'.len]
    simp only [Nat.min_def]
    split <;> omega
  · obtain ⟨T, z, w, e1, e2, e3, e4, e5⟩ := y
    exact ⟨T, z, w, e1, e2, e3, e4 vs g.1, e5 us g.2⟩
  · obtain ⟨T, z, w, rfl, e2, rfl, e4, e5⟩ := y
    obtain ⟨d, e6, rd⟩ := hr.getV e4
    obtain ⟨d', e7, rd'⟩ := hr'.getV e5
    exact ⟨_, zipD_get ds es i d d' e6 e7, same_new e2, new_tup (S := S) hO e2 (.cons (rd.mono m) (.cons (rd'.mono m) .nil))⟩
theorem ji_zip (hx : HX C k fns cns X) {e e' : Expr} {t t' : T} {p pos tpos : Pos} {elts : List Expr} {kk : Nat} (hg : Gl X "zip") (he : JE C X B W e t) (he' : JE C X B W e' t') (hs : isStar e = false) (hs' : isStar e' = false) :
    PI X (.Tuple elts kk tpos) (.Call (.Name "zip" p) [e, e'] [] pos) (tI C X.K B W (.zip false t t')) := by
  refine (RZ.pi_zipA hg (hx.blt _ (by decide)) (ja_cons he (ja_cons he' ja_nil hs') hs) (by rw [star_cons hs, star_cons hs'] <;> rfl) (by rw [star_cons hs'] <;> rfl)).weak fun σ H R => ?_
  rintro ⟨env, s, O, r, q, h⟩
  unfold evI at h
  refine ⟨env, s, O, r, q, ?_⟩
  unfold evA evA evA
  refine RQ.unbind (h.bind.mono (fun x s1 h1 => RQ.unbind (RQ.unbind (h1.bind.mono (fun x' s2 h2 => ?_) fun _ _ _ z => z))) fun _ _ _ z => z)
  intro vs H1 e1 q1 v1
  obtain ⟨kx, d⟩ := x
  obtain ⟨kx', d'⟩ := x'
  have hS : ∀ b, B.S.Out b → O b := fun b z => r.sub _ (r.so b z)
  match vs, v1 with
  | [u, u'], ⟨w1, w2, _⟩ =>
    cases d with
    | list xs =>
      cases d' with
      | list ys =>
        obtain ⟨a, vs, rfl, ea, ra, gd⟩ := good_lst r.dom w1
        have nn := peek_nsrc hS r.dom w1
        obtain ⟨b, us, rfl, eb, rb, gd'⟩ := good_lst r.dom w2
        have nn' := peek_nsrc hS r.dom w2
        refine ⟨a, b, vs, us, rfl, .inl ⟨.of ea, .of eb, h2 H1 _ e1 q1 (walk_zipL ra (fun H' g => gd _ H' (fun z => ?_) g fun _ => nn) rb (fun H' g => gd' _ H' (fun z => ?_) g fun _ => nn'))⟩⟩
        · have z : kx = .peek := z
          simp [z]
        · have z : kx' = .peek := z
          simp [z]
      | _ => exact h2.elim
    | tuple xs =>
      cases d' with
      | tuple ys =>
        obtain ⟨a, vs, rfl, ea, ra⟩ := VR.tupH w1
        obtain ⟨b, us, rfl, eb, rb⟩ := VR.tupH w2
        exact ⟨a, b, vs, us, rfl, .inr ⟨Same.sqT same_hide ea, Same.sqT same_hide eb, h2 H1 _ e1 q1 (walk_zipT hS ea ra eb rb)⟩⟩
      | _ => exact h2.elim
    | _ => exact h2.elim
theorem ji_enu (hx : HX C k fns cns X) {e : Expr} {t : T} {p pos tpos : Pos} {elts : List Expr} {kk : Nat} (hg : Gl X "enumerate") (he : JE C X B W e t) (hs : isStar e = false) : PI X (.Tuple elts kk tpos) (.Call (.Name "enumerate" p) [e] [] pos) (tI C X.K B W (.enu t)) := by
  constructor
  intro pins s σ H R I h
  obtain ⟨env, sr, O, r, q, h⟩ := h
  unfold evI at h
  refine Call_ (ld_blt I hg (hx.blt _ (by decide)) boot_enumerate (PyProof.Rows.callWith_type1 (thn ((pa_cons he.e pa_nil (star_cons hs)).run pos pins s σ H (fun us H1 => ∃ u, us = [u] ∧ ∃ x : Kd × D, ∃ s1, Ex B.S H H1 ∧ SrcR B.S H1 s1 ∧ VR X.K B.S O H H1 x.1 u x.2 ∧ RQ (Tre.R.of ((enF x.2).map fun xs => (decide (x.1 = .peek), xs)) s1) (fun x s' => ∀ H1 J, Ex B.S H H1 → SrcR B.S H1 s' → WalkOf X.K B.S O H1 x.1 J x.2 → R J H1) (wX C X.K B W σ H)) I
    ⟨env, sr, O, r, q, h.bind.mono (fun x s1 h1 u H1 e1 q1 v1 => ⟨u, rfl, x, s1, e1, q1, v1, h1⟩) fun _ _ _ z => z⟩) ?_) (star_cons hs) rfl))
  rintro us s1 ⟨vs, H1, I1, r1, u, rfl, ⟨kd, d⟩, s2, e1, q1, v1, h1⟩
  cases r1 with
  | cons ru rr =>
  cases rr
  obtain ⟨y, e2, h2⟩ := h1.of
  obtain ⟨ds, e3, e4⟩ := Option.map_eq_some_iff.mp e2
  subst e4
  have hS : ∀ b, B.S.Out b → O b := fun b z => r.sub _ (r.so b z)
  have apart : ∀ b ∈ [s1.heap.objs.size + 1, s1.heap.objs.size], s1.heap.objs.size ≤ b := fun b hb => by
    have e' : b = s1.heap.objs.size + 1 ∨ b = s1.heap.objs.size := by simpa using hb
    rcases e' with z | z
    · rw [z]; exact Nat.le_add_right _ _
    · rw [z]; exact Nat.le_refl _
  unfold enF at e3
  split at e3
  · rename_i ed
    cases e3
    rename_i ds
    have ed : d = .list ds := ed
    subst ed
    obtain ⟨a, vs, rfl, ea, ra, gd⟩ := good_lst r.dom v1
    have nn := peek_nsrc hS r.dom v1
    cases ru
    obtain ⟨its, rv, p', hz⟩ := I1.list (SqL.of (K := X.K) ea)
    refine call_enumerate_list p'.isList fun h' he hit hsz hk => wpAny_pyIter_enum he ?_
    have I2 : Inv X pins σ H1 { s1 with heap := h' } := I1.kept (t' := s1.toks) hk
    exact ⟨s1.heap.objs.size + 1, [s1.heap.objs.size + 1, s1.heap.objs.size], _, _, H1, rfl, I2, turn_enum a (s1.heap.objs.size + 1) s1.heap.objs.size, ⟨⟨.none, he⟩, hit, Nat.succ_ne_self _⟩, fun b hb => I1.fpOk (apart b hb) (I1.hok.fresh (apart b hb)),
      h2 H1 _ e1 q1 (walk_enuL ra fun H' g => gd _ H' (fun z => decide_eq_true z) g fun _ => nn)⟩
  · rename_i ed
    cases e3
    rename_i ds
    have ed : d = .tuple ds := ed
    subst ed
    obtain ⟨a, vs, rfl, ea, ra⟩ := VR.tupH v1
    cases ru
    obtain ⟨its, rv, p', hz⟩ := I1.tuple (Same.sqT same_hide ea)
    have p2 : s1.heap.IsTuple a its.toArray := p'
    obtain ⟨o2, ho2, _⟩ := id p2
    have hal : a < s1.heap.objs.size := Heap.lt_size ho2
    refine call_enumerate_tup p2 fun h' he hit hsz hk => wpAny_pyIter_enum he ?_
    have I2 : Inv X pins σ H1 { s1 with heap := h' } := I1.kept (t' := s1.toks) hk
    exact ⟨s1.heap.objs.size + 1, [s1.heap.objs.size + 1, s1.heap.objs.size], _, _, H1, rfl, I2, turn_enumT a (s1.heap.objs.size + 1) s1.heap.objs.size vs.length, ⟨⟨.none, he⟩, hit, Nat.succ_ne_self _, Nat.ne_of_gt (Nat.lt_succ_of_lt hal), Nat.ne_of_lt hal, Nat.zero_le _⟩, fun b hb => I1.fpOk (apart b hb) (I1.hok.fresh (apart b hb)),
      h2 H1 _ e1 q1 (walk_enuT hS ea ra)⟩
  · rename_i ed
    cases e3
    rename_i z
    have ed : d = .str z := ed
    subst ed
    obtain ⟨rfl, l1, l2⟩ := v1.str
    obtain ⟨t, rfl⟩ := ru
    refine call_enumerate_str fun h' he hit hsz hk => wpAny_pyIter_enum he ?_
    have I2 : Inv X pins σ H1 { s1 with heap := h' } := I1.kept (t' := s1.toks) hk
    have ht : strIterType z = "str_ascii_iterator" ∨ strIterType z = "str_iterator" := by
      unfold strIterType; split <;> simp
    exact ⟨s1.heap.objs.size + 1, [s1.heap.objs.size + 1, s1.heap.objs.size], _, _, H1, rfl, I2, turn_enumS (s1.heap.objs.size + 1) s1.heap.objs.size z t _ ht, ⟨Nat.zero_le _, ⟨.none, he⟩, hit, Nat.succ_ne_self _⟩, fun b hb => I1.fpOk (apart b hb) (I1.hok.fresh (apart b hb)),
      h2 H1 _ e1 q1 (walk_enuS l2)⟩
  · cases e3
/-! ### stores -/
def slotsT : T → List Nat
  | .v i => [i]
  | .ov i => [i]
  | .tup ts => slotsT ts
  | .cons a r => slotsT a ++ slotsT r
  | _ => []
theorem putE_some {env env' : Env} {i : Nat} {x : Slot} (h : putE env i x = some env') : i < env.length ∧ env' = env.set i x := by
  unfold putE at h
  split at h
  · cases h; exact ⟨by assumption, rfl⟩
  · cases h
section
variable {K : PySem.W.Frag} {O : Addr → Prop} {Ha H : Hp} {env env' : Env} {σ : L2.St} {s : Src}
/-- a frozen value is stored -/
theorem Rl.setF (r : B.Rl K O env σ H) {i : Nat} {v : V} {d : D} (h : Rp K (hide H O) v d) : B.Rl K O (env.set i (.d false d)) (σ.set i (some v)) H where
  len := by rw [List.length_set, List.length_set]; exact r.len
  so := r.so
  sub := r.sub
  dom := r.dom
  dom0 := r.dom0
  same := r.same
  slots := fun j x o e1 e2 => by
    by_cases hj : i = j
    · subst hj
      have h1 : i < env.length := by
        have := (List.getElem?_eq_some_iff.mp e1).1
        rwa [List.length_set] at this
      rw [List.getElem?_set_self h1] at e1
      rw [List.getElem?_set_self (by rw [← r.len]; exact h1)] at e2
      cases e1; cases e2
      exact ⟨v, rfl, h⟩
    · rw [List.getElem?_set_ne hj] at e1 e2
      exact r.slots j x o e1 e2
  inj := fun j l d1 d2 a e1 e2 e3 e4 => by
    have n1 : i ≠ j := fun z => by
      subst z
      have h1 : i < env.length := by
        have := (List.getElem?_eq_some_iff.mp e1).1
        rwa [List.length_set] at this
      rw [List.getElem?_set_self h1] at e1
      cases e1
    have n2 : i ≠ l := fun z => by
      subst z
      have h1 : i < env.length := by
        have := (List.getElem?_eq_some_iff.mp e2).1
        rwa [List.length_set] at this
      rw [List.getElem?_set_self h1] at e2
      cases e2
    rw [List.getElem?_set_ne n1] at e1 e3
    rw [List.getElem?_set_ne n2] at e2 e4
    exact r.inj j l d1 d2 a e1 e2 e3 e4
/-- a new object is hidden -/
theorem Rl.hideNew (r : B.Rl K O env σ Ha) (e : Ex B.S Ha H) (q : SrcR B.S H s) {a : Addr} (n : Ha a = none) (t : H a ≠ none) : B.Rl K (fun b => O b ∨ b = a) env σ H where
  len := r.len
  so := r.so
  sub := fun b h => .inl (r.sub b h)
  dom := fun b h => by
    rcases h with h | rfl
    · exact (r.ext e q).dom b h
    · exact t
  dom0 := r.dom0
  same := r.same.trans e
  slots := fun j x o e1 e2 => by
    have h := r.slots j x o e1 e2
    have m : Same (hide Ha O) (hide H fun b => O b ∨ b = a) := hide_same (fun b p nb hb => e b p hb (r.nO nb)) fun b z nb => z.elim (fun z => absurd z nb) fun z => by subst z; exact n
    cases x with
    | e => trivial
    | src => exact h
    | d k d =>
      cases k with
      | false =>
        obtain ⟨v, rfl, p⟩ := h
        exact ⟨v, rfl, p.mono m⟩
      | true =>
        obtain ⟨b, vs, ds, rfl, rfl, p1, p2, p3, p4, p5⟩ := h
        exact ⟨b, vs, ds, rfl, rfl, e b _ p1 (r.nO0 p4), p2.mono m, .inl p3, p4, p5⟩
  inj := r.inj
/-- what a slot owns stood there -/
theorem Rl.owned (r : B.Rl K O env σ H) {i : Nat} {d : D} {a : Addr} (e1 : env[i]? = some (.d true d)) (e2 : σ[i]? = some (some (.ref a))) : ∃ vs ds, d = .list ds ∧ H a = some (.lst vs) ∧ RpA K (hide H O) vs ds ∧ O a ∧ ¬ B.O0 a ∧ B.H0 a = none := by
  obtain ⟨b, vs, ds, e3, rfl, p⟩ := r.slots i _ _ e1 e2
  cases e3
  exact ⟨vs, ds, rfl, p⟩
/-- a new list becomes a slot's own -/
theorem Rl.setO (r : B.Rl K O env σ Ha) (e : Ex B.S Ha H) (q : SrcR B.S H s) {i : Nat} {a : Addr} {vs : List V} {ds : List D} (n : Ha a = none) (t : H a = some (.lst vs)) (h : RpA K (hide H fun b => O b ∨ b = a) vs ds) :
    B.Rl K (fun b => O b ∨ b = a) (env.set i (.d true (.list ds))) (σ.set i (some (.ref a))) H := by
  have r' := r.hideNew e q n (by rw [t]; exact fun z => nomatch z)
  have nO : ¬ O a := fun z => r.dom a z n
  have fresh : ∀ (j : Nat) (d : D), env[j]? = some (.d true d) → σ[j]? = some (some (.ref a)) → False := fun j d e1 e2 => by
    obtain ⟨_, _, _, p, _⟩ := r.owned e1 e2
    rw [n] at p; cases p
  have n0 : B.H0 a = none := by
    cases p : B.H0 a with
    | none => rfl
    | some o =>
      have n1 := r.nsrc n
      rw [r.same a o p n1] at n
      cases n
  refine ⟨by rw [List.length_set, List.length_set]; exact r.len, r'.so, r'.sub, r'.dom, r'.dom0, r'.same, fun j x o e1 e2 => ?_, fun j l d1 d2 b e1 e2 e3 e4 => ?_⟩
  · by_cases hj : i = j
    · subst hj
      have h1 : i < env.length := by
        have := (List.getElem?_eq_some_iff.mp e1).1
        rwa [List.length_set] at this
      rw [List.getElem?_set_self h1] at e1
      rw [List.getElem?_set_self (by rw [← r.len]; exact h1)] at e2
      cases e1; cases e2
      exact ⟨a, vs, ds, rfl, rfl, t, h, .inr rfl, fun z => nO (r.sub a z), n0⟩
    · rw [List.getElem?_set_ne hj] at e1 e2
      exact r'.slots j x o e1 e2
  · have at_ : ∀ m : Nat, i = m → ∀ dd bb, (env.set i (.d true (.list ds)))[m]? = some (.d true dd) → (σ.set i (some (.ref a)))[m]? = some (some (.ref bb)) → bb = a := fun m hm dd bb x1 x2 => by
      subst hm
      have h1 : i < env.length := by
        have := (List.getElem?_eq_some_iff.mp x1).1
        rwa [List.length_set] at this
      rw [List.getElem?_set_self (by rw [← r.len]; exact h1)] at x2
      cases x2; rfl
    by_cases hj : i = j
    · by_cases hl : i = l
      · rw [← hj, ← hl]
      · have eb := at_ j hj _ _ e1 e3
        subst eb
        rw [List.getElem?_set_ne hl] at e2 e4
        exact (fresh l d2 e2 e4).elim
    · by_cases hl : i = l
      · have eb := at_ l hl _ _ e2 e4
        subst eb
        rw [List.getElem?_set_ne hj] at e1 e3
        exact (fresh j d1 e1 e3).elim
      · rw [List.getElem?_set_ne hj] at e1 e3
        rw [List.getElem?_set_ne hl] at e2 e4
        exact r.inj j l d1 d2 b e1 e2 e3 e4
end
end
end Tre
/-! Tre8: targets, comprehensions. -/
namespace Tre
open PySem PySem.Spec PyProof.Rows L2

section
variable {K : PySem.W.Frag} {B : Bx} {O : Addr → Prop} {Ha H : Hp} {env env' : Env} {σ : L2.St} {s : Src}
theorem Rl.setE (r : B.Rl K O env σ H) (i : Nat) (o : Option V) : B.Rl K O (env.set i .e) (σ.set i o) H where
  len := by rw [List.length_set, List.length_set]; exact r.len
  so := r.so
  sub := r.sub
  dom := r.dom
  dom0 := r.dom0
  same := r.same
  slots := fun j x p e1 e2 => by
    by_cases hj : i = j
    · subst hj
      have h1 : i < env.length := by
        have := (List.getElem?_eq_some_iff.mp e1).1
        rwa [List.length_set] at this
      rw [List.getElem?_set_self h1] at e1
      cases e1
      trivial
    · rw [List.getElem?_set_ne hj] at e1 e2
      exact r.slots j x p e1 e2
  inj := fun j l d1 d2 a e1 e2 e3 e4 => by
    have ne : ∀ m d, (env.set i Slot.e)[m]? = some (.d true d) → i ≠ m := fun m d e z => by
      subst z
      have h1 : i < env.length := by
        have := (List.getElem?_eq_some_iff.mp e).1
        rwa [List.length_set] at this
      rw [List.getElem?_set_self h1] at e
      cases e
    have n1 := ne j d1 e1
    have n2 := ne l d2 e2
    rw [List.getElem?_set_ne n1] at e1 e3
    rw [List.getElem?_set_ne n2] at e2 e4
    exact r.inj j l d1 d2 a e1 e2 e3 e4
theorem set_get_self {α : Type} (l : List α) (i : Nat) (x : α) (h : l[i]? = some x) : l.set i x = l := by
  obtain ⟨h1, h2⟩ := List.getElem?_eq_some_iff.mp h
  rw [← h2]
  exact List.set_getElem_self h1
theorem Rl.kill (r : B.Rl K O env σ H) (i : Nat) : B.Rl K O (env.set i .e) σ H := by
  cases e : σ[i]? with
  | none =>
    have : σ.length ≤ i := List.getElem?_eq_none_iff.mp e
    rw [List.set_eq_of_length_le (by rw [r.len]; exact this)]
    exact r
  | some o =>
    have := r.setE i o
    rwa [set_get_self σ i o e] at this
theorem Rl.kl (r : B.Rl K O env σ H) : ∀ is : List Nat, B.Rl K O (klE env is) σ H
  | [] => r
  | i :: is => (Rl.kl r is).kill i
theorem Rl.wipe (r : B.Rl K O env σ H) : ∀ is : List Nat, B.Rl K O (klE env is) (wipe σ is) H
  | [] => r
  | i :: is => (Rl.wipe r is).setE i none
/-- a hidden object that no slot owns is written -/
theorem Rl.poke (r : B.Rl K O env σ H) {a : Addr} {o : HO} (h : O a) (n0 : B.H0 a = none) (ns : ∀ (i : Nat) (d : D), env[i]? = some (Slot.d true d) → σ[i]? ≠ some (some (V.ref a))) : B.Rl K O env σ (upd H a o) where
  len := r.len
  so := r.so
  sub := r.sub
  dom := fun b hb => by
    by_cases e : b = a
    · subst e; rw [upd_same]; exact fun z => nomatch z
    · rw [upd_ne e]; exact r.dom b hb
  dom0 := r.dom0
  same := fun b p e1 e2 => by
    rw [upd_ne (fun z => by subst z; rw [n0] at e1; cases e1)]
    exact r.same b p e1 e2
  slots := fun j x p e1 e2 => by
    have q := r.slots j x p e1 e2
    cases x with
    | e => trivial
    | src => exact q
    | d k d =>
      cases k with
      | false =>
        obtain ⟨v, rfl, p⟩ := q
        exact ⟨v, rfl, by rw [hide_upd h]; exact p⟩
      | true =>
        obtain ⟨b, vs, ds, rfl, rfl, p1, p2, p3, p4, p5⟩ := q
        refine ⟨b, vs, ds, rfl, rfl, ?_, by rw [hide_upd h]; exact p2, p3, p4, p5⟩
        rw [upd_ne (fun z => ns j _ e1 (by rw [← z]; exact e2))]
        exact p1
  inj := r.inj
theorem tabs_upd {T : List (Addr × Str)} {H : Hp} {a : Addr} {o o0 : HO} (h : H a = some o0) (h1 : ∀ ps, o0 ≠ .tbl ps) (h2 : ∀ φ, o0 ≠ .ext φ) (t : LamX.Tabs T H) : LamX.Tabs T (upd H a o) := fun p hp => by
  obtain ⟨ps, e1, e2, e3⟩ := t p hp
  refine ⟨ps, ?_, e2, fun pos cv hc => ?_⟩
  · rw [upd_ne (fun z => by rw [z, h] at e1; exact h1 ps (Option.some.inj e1))]; exact e1
  · obtain ⟨c, e4, e5⟩ := e3 pos cv hc
    refine ⟨c, e4, ?_⟩
    rw [upd_ne (fun z => by rw [z, h] at e5; exact h2 _ (Option.some.inj e5))]; exact e5
/-- a list that may be written -/
def Pk (S : SA) (H : Hp) (a : Addr) : Prop := ¬ S.Out a ∧ ∃ vs, H a = some (.lst vs)
theorem SrcR.poke {S : SA} (q : SrcR S H s) {a : Addr} {o : HO} (n : Pk S H a) : SrcR S (upd H a o) s := by
  obtain ⟨n, vs, e⟩ := n
  exact ⟨q.1, by rw [upd_ne (fun z => n (.inl z.symm))]; exact q.2.1, by rw [upd_ne (fun z => n (.inr (.inl z.symm)))]; exact q.2.2.1, tabs_upd e (fun _ z => nomatch z) (fun _ z => nomatch z) q.2.2.2⟩

/-! ### targets -/
def tGt (K : PySem.W.Frag) (B : Bx) (t : T) : TG := fun v σ H Q => ∃ env s O Ha kd d env', B.Rl K O env σ Ha ∧ Ex B.S Ha H ∧ SrcR B.S H s ∧ VR K B.S O Ha H kd v d ∧ bindT t (kd, d) env = some env' ∧
  ∀ σ' O', B.Rl K O' env' σ' H → Same (hide Ha O) (hide H O') → (∀ a, O a → O' a) → (∀ j, j ∉ slotsT t → σ'[j]? = σ[j]?) → σ'.length = σ.length → Q σ' H
def tGs (K : PySem.W.Frag) (B : Bx) (t : T) : TGs := fun vs σ H Q => ∃ env s O ds env', B.Rl K O env σ H ∧ SrcR B.S H s ∧ RpA K (hide H O) vs ds ∧ bindT t (.frz, .tuple ds) env = some env' ∧
  ∀ σ' O', B.Rl K O' env' σ' H → Same (hide H O) (hide H O') → (∀ a, O a → O' a) → (∀ j, j ∉ slotsT t → σ'[j]? = σ[j]?) → σ'.length = σ.length → Q σ' H
end
theorem _root_.L2.PG.weak {X : Cx} {e : Expr} {t t' : TG} (h : PG X e t) (m : ∀ v σ H Q, t' v σ H Q → t v σ H Q) : PG X e t' := ⟨fun pins s σ H v u Q I r q => h.run pins s σ H v u Q I r (m v σ H Q q)⟩
theorem _root_.L2.PGs.weak {X : Cx} {e : List Expr} {t t' : TGs} (h : PGs X e t) (m : ∀ v σ H Q, t' v σ H Q → t v σ H Q) : PGs X e t' := ⟨fun pins s σ H v u Q I r q => h.run pins s σ H v u Q I r (m v σ H Q q)⟩

section
variable {C : Cf} {k : Nat} {fns cns : List Str} {X : Cx} {B : Bx} {W : WX}
theorem name_v {i : Nat} {v : V} {σ : L2.St} {H : Hp} {Q : L2.St → Hp → Prop} (h : tGt X.K B (.v i) v σ H Q) : gName i v σ H Q := by
  obtain ⟨env, s, O, Ha, kd, d, env', r, e, q, vr, h1, h2⟩ := h
  unfold bindT at h1
  split at h1
  · cases h1
  · obtain ⟨_, rfl⟩ := putE_some h1
    exact h2 _ O ((r.ext e q).setF (vr.frz r.dom (by assumption))) (r.hid e) (fun _ z => z) (fun j hj => by rw [List.getElem?_set_ne (fun z => hj (by simp [slotsT, z]))]) (by rw [List.length_set])
theorem name_ov {i : Nat} {v : V} {σ : L2.St} {H : Hp} {Q : L2.St → Hp → Prop} (h : tGt X.K B (.ov i) v σ H Q) : gName i v σ H Q := by
  obtain ⟨env, s, O, Ha, kd, d, env', r, e, q, vr, h1, h2⟩ := h
  unfold bindT at h1
  split at h1
  · cases h1
  · obtain ⟨_, rfl⟩ := putE_some h1
    have sl : ∀ j, j ∉ slotsT (.ov i) → (σ.set i (some v))[j]? = σ[j]? := fun j hj => by rw [List.getElem?_set_ne (fun z => hj (by simp [slotsT, z]))]
    cases kd with
    | peek => contradiction
    | frz => exact h2 _ O ((r.ext e q).setF vr) (r.hid e) (fun _ z => z) sl (by rw [List.length_set])
    | own =>
      obtain ⟨a, vs, ds, rfl, rfl, n, t, p⟩ := vr
      refine h2 _ _ (r.setO e q n t p) (hide_same (fun b o nb hb => e b o hb (r.nO nb)) fun b z nb => ?_) (fun _ z => .inl z) sl (by rw [List.length_set])
      rcases z with z | rfl
      · exact absurd z nb
      · exact n
theorem jt_v (nd : X.N.Nodup) {i : Nat} {x : Str} {pos : Pos} (hi : X.N[i]? = some x) (hx : Loc X.env.scope x) (hf : X.fn x = true ∨ X.env.scope.names.lookup x = some .local) : PG X (.Name x pos) (tGt X.K B (.v i)) :=
  (pg_name nd hi hx hf).weak fun v σ H Q => name_v
theorem jt_ov (nd : X.N.Nodup) {i : Nat} {x : Str} {pos : Pos} (hi : X.N[i]? = some x) (hx : Loc X.env.scope x) (hf : X.fn x = true ∨ X.env.scope.names.lookup x = some .local) : PG X (.Name x pos) (tGt X.K B (.ov i)) :=
  (pg_name nd hi hx hf).weak fun v σ H Q => name_ov
/-- a row of targets -/
structure JTs (X : Cx) (B : Bx) (es : List Expr) (t : T) : Prop where
  g : PGs X es (tGs X.K B t)
  len : ∀ ds env env', bindT t (.frz, .tuple ds) env = some env' → ds.length = es.length
  st : es.all (fun e => !isStar e) = true
theorem jts_nil : JTs X B [] .nil := by
  refine ⟨pgs_nil.weak fun vs σ H Q => ?_, fun ds env env' h => ?_, rfl⟩
  · rintro ⟨env, s, O, ds, env', r, q, rp, h1, h2⟩
    cases ds with
    | nil =>
      cases rp
      have e : env = env' := by simpa [bindT] using h1
      subst e
      exact ⟨rfl, h2 σ O r (Same.refl _) (fun _ z => z) (fun _ _ => rfl) rfl⟩
    | cons d ds => simp [bindT] at h1
  · cases ds with
    | nil => rfl
    | cons d ds => simp [bindT] at h
theorem jts_cons {e : Expr} {es : List Expr} {t u : T} (h : PG X e (tGt X.K B t)) (g : JTs X B es u) (hs : isStar e = false) : JTs X B (e :: es) (.cons t u) := by
  have ha : (assignEach (e :: es) X.env).map (·.2) = assign e X.env :: (assignEach es X.env).map (·.2) := by cases e <;> first | rfl | cases hs
  refine ⟨(pgs_cons h g.g ha).weak fun vs σ H Q => ?_, fun ds env env' h => ?_, by rw [List.all_cons, hs, g.st] <;> rfl⟩
  · rintro ⟨env, s, O, ds, env', r, q, rp, h1, h2⟩
    cases ds with
    | nil => simp [bindT] at h1
    | cons d ds =>
      cases rp with
      | cons rp1 rp2 =>
        have h1 : ((bindT t (.frz, d) env).bind fun env1 => bindT u (.frz, .tuple ds) env1) = some env' := by simpa [bindT] using h1
        obtain ⟨env1, b1, b2⟩ := Option.bind_eq_some_iff.mp h1
        refine ⟨_, _, rfl, env, s, O, H, .frz, d, env1, r, Ex.refl _ _, q, rp1, b1, fun σ1 O1 r1 m1 z1 s1 l1 => ?_⟩
        refine ⟨env1, s, O1, ds, env', r1, q, rp2.mono m1, b2, fun σ2 O2 r2 m2 z2 s2 l2 => ?_⟩
        refine h2 σ2 O2 r2 (m1.trans m2) (fun a z => z2 a (z1 a z)) (fun j hj => ?_) (l2.trans l1)
        have n1 : j ∉ slotsT t := fun z => hj (by simp [slotsT, z])
        have n2 : j ∉ slotsT u := fun z => hj (by simp [slotsT, z])
        rw [s2 j n2, s1 j n1]
  · cases ds with
    | nil => simp [bindT] at h
    | cons d ds =>
      have h1 : ((bindT t (.frz, d) env).bind fun env1 => bindT u (.frz, .tuple ds) env1) = some env' := by simpa [bindT] using h
      obtain ⟨env1, b1, b2⟩ := Option.bind_eq_some_iff.mp h1
      rw [List.length_cons, List.length_cons, g.len ds env1 env' b2]
theorem assign_len {env : PySem.Env} : ∀ es : List Expr, (assignEach es env).length = es.length
  | [] => rfl
  | e :: es => by cases e <;> exact congrArg (· + 1) (assign_len es)
theorem assign_plain {env : PySem.Env} : ∀ es : List Expr, es.all (fun e => !isStar e) = true → (assignEach es env).findIdx? (·.1) = none
  | [], _ => rfl
  | e :: es, h => by
    simp only [List.all_cons, Bool.and_eq_true, Bool.not_eq_true'] at h
    have e1 : assignEach (e :: es) env = (false, assign e env) :: assignEach es env := by cases e <;> first | rfl | cases h.1
    rw [e1, List.findIdx?_cons, assign_plain es h.2] <;> rfl
theorem jt_tup (hc : X.calm = true) {es : List Expr} {kk : Nat} {pos : Pos} {t : T} (g : JTs X B es t) : PG X (.Tuple es kk pos) (tGt X.K B (.tup t)) := by
  refine ⟨fun pins st σ H v u Q I ru hq => ?_⟩
  obtain ⟨env, s, O, Ha, kd, d, env', r, e, q, vr, h1, h2⟩ := hq
  cases d with
  | list ds =>
    have h1 : bindT t (.frz, .tuple ds) env = some env' := by simpa [bindT] using h1
    obtain ⟨a, vs, rfl, ea, ra, gd⟩ := good_lst r.dom vr
    refine (pg_unl hc g.g (assign_len es) (assign_plain es g.st)).run pins st σ H _ u Q I ru ?_
    exact ⟨a, vs, rfl, .of ea, by rw [ra.len]; exact g.len ds env env' h1, env, s, O, ds, env', r.ext e q, q, ra, h1, fun σ' O' r' m' z' s' l' => h2 σ' O' r' ((r.hid e).trans m') z' s' l'⟩
  | tuple ds =>
    have h1 : bindT t (.frz, .tuple ds) env = some env' := by simpa [bindT] using h1
    obtain ⟨a, vs, rfl, ea, ra⟩ := vr.tuple
    refine (pg_tup hc g.g (assign_len es) (assign_plain es g.st)).run pins st σ H _ u Q I ru ?_
    exact ⟨a, vs, rfl, ea, by rw [ra.len]; exact g.len ds env env' h1, env, s, O, ds, env', r.ext e q, q, ra, h1, fun σ' O' r' m' z' s' l' => h2 σ' O' r' ((r.hid e).trans m') z' s' l'⟩
  | _ => simp [bindT] at h1

/-! ### comprehensions -/
theorem wipe_out {σ : L2.St} {j : Nat} : ∀ {vs : List Nat}, j ∉ vs → (wipe σ vs)[j]? = σ[j]?
  | [], _ => rfl
  | v :: vs, h => by
    simp only [List.mem_cons, not_or] at h
    show ((wipe σ vs).set v none)[j]? = _
    rw [List.getElem?_set_ne (Ne.symm h.1)]
    exact wipe_out h.2
theorem wipe_in {σ : L2.St} {j : Nat} : ∀ {vs : List Nat}, j ∈ vs → j < σ.length → (wipe σ vs)[j]? = some none
  | v :: vs, h, hl => by
    show ((wipe σ vs).set v none)[j]? = _
    by_cases e : v = j
    · subst e
      rw [List.getElem?_set_self (by rw [wipe_length]; exact hl)]
    · rw [List.getElem?_set_ne e]
      rcases List.mem_cons.mp h with h | h
      · exact absurd h.symm e
      · exact wipe_in h hl
theorem wipe_eq {σ σ' : L2.St} {vs : List Nat} (hl : σ'.length = σ.length) (h : ∀ j, j ∉ vs → σ'[j]? = (wipe σ vs)[j]?) : wipe σ' vs = wipe σ vs := by
  apply List.ext_getElem?
  intro j
  by_cases hj : j ∈ vs
  · by_cases hl2 : j < σ.length
    · rw [wipe_in hj hl2, wipe_in hj (by rw [hl]; exact hl2)]
    · rw [List.getElem?_eq_none (by rw [wipe_length, hl]; omega), List.getElem?_eq_none (by rw [wipe_length]; omega)]
  · rw [wipe_out hj, h j hj]
theorem HX.blk (hx : HX C k fns cns X) {s : Shared} {H : Hp} {scope : Scope} {cenv : PySem.Env} {fp : List Addr} : HX C k fns cns (X.blk s H scope cenv fp) := ⟨hx.nd, hx.calm, hx.guards, hx.room, hx.blt, hx.fn, hx.cn⟩
abbrev W0 : WX := fun _ _ _ _ => False
theorem je_lc (hx : HX C k fns cns X) {elt tg iter : Expr} {ifs : List Expr} {scope : Scope} {own : List (Str × Nat)} {pos : Pos} {tt ti tc te : T} (hi : PI X tg iter (tI C X.K B W ti)) (ok : BlkOk X.N X.env.scope scope own) (hsl : ∀ j ∈ slotsT tt, j ∈ own.map (·.2))
    (hg : ∀ (s : Shared) (H : Hp) (A : Addr) (cl : List (Str × Addr)) (fp : List Addr), PG (X.blk s H scope (compEnvC scope cl A X.env) fp) tg (tGt X.K B tt))
    (ht : ∀ (s : Shared) (H : Hp) (A : Addr) (cl : List (Str × Addr)) (fp : List Addr), PTs (X.blk s H scope (compEnvC scope cl A X.env) fp) ifs (tT C X.K B W0 tc))
    (he : ∀ (s : Shared) (H : Hp) (A : Addr) (cl : List (Str × Addr)) (fp : List Addr), PE (X.blk s H scope (compEnvC scope cl A X.env) fp) elt (tE C X.K B W0 te))
    (hs : ∀ x, foldedSetIterable iter X.env x = pure x) :
    PE X (.ListComp elt [⟨tg, iter, ifs, 0⟩] scope pos) (tE C X.K B W (.lc tt ti tc te (own.map (·.2)))) ∧
    (∀ σ H Q, tE C X.K B W (.lc tt ti tc te (own.map (·.2))) σ H Q → tLc (tI C X.K B W ti) (tGt X.K B tt) (tT C X.K B W0 tc) (tE C X.K B W0 te) (own.map (·.2)) σ H Q) := by
  have key : ∀ σ H Q, tE C X.K B W (.lc tt ti tc te (own.map (·.2))) σ H Q → tLc (tI C X.K B W ti) (tGt X.K B tt) (tT C X.K B W0 tc) (tE C X.K B W0 te) (own.map (·.2)) σ H Q := by
    intro σ H Q
    generalize hws : own.map (·.2) = ws at hsl ⊢
    rintro ⟨env, s, O, r, q, h⟩
    unfold evE at h
    refine ⟨env, s, O, r, q, h.bind.mono (fun xs s1 h1 => ?_) fun _ _ _ z => z⟩
    intro H1 J e1 q1 wk D nD
    by_cases hsz : xs.2.length ≤ sizeLine
    case neg => rw [if_neg hsz] at h1; exact h1.elim
    rw [if_pos hsz] at h1
    have h1 := h1.bind
    have r1 := r.ext e1 q1
    have nD1 := r1.nsrc nD
    have nH0 : B.H0 D = none := r1.same.free q1 nD
    have OD : ∀ a, O a → a ≠ D := fun a h z => by subst z; exact r1.dom _ h nD
    -- the block's own slots, the new list hidden
    have rb : B.Rl X.K (fun b => O b ∨ b = D) (klE env ws) (wipe σ ws) (upd H1 D (.lst [])) :=
      (r1.hideNew (Ex.new nD) (q1.same (same_new nD)) nD (by rw [upd_same]; exact fun z => nomatch z)).wipe ws
    have rb1 := r1.wipe ws
    have ns : ∀ (i : Nat) (d : Tre.D), (klE env ws)[i]? = some (Slot.d true d) → (wipe σ ws)[i]? ≠ some (some (V.ref D)) := fun i d x1 x2 => by
      obtain ⟨_, _, _, p, _⟩ := rb1.owned x1 x2
      rw [nD] at p; cases p
    obtain ⟨Gd, Y, w, wg, wy⟩ := wk
    let Pv : Nat → Hp → Prop := fun i H' => ∃ s' acc ys, SrcR B.S H' s' ∧ Ex B.S H1 H' ∧ B.Rl X.K (fun b => O b ∨ b = D) (klE env ws) (wipe σ ws) H' ∧ H' D = some (.lst acc) ∧ RpA X.K (hide H' fun b => O b ∨ b = D) acc ys ∧ acc.length ≤ i ∧
      RQ (compL (fun x s => (R.of (bindT tt (.frz, x) (klE env ws)) s).bind fun env' s => (evE C.Φ C.G tc env' s).calm.bind fun b s => if truth b.2 then (evE C.Φ C.G te env' s).calm.bind fun y s => (if y.1 = .peek then .stuck else .ok (some y.2) s) else .ok none s) (xs.2.drop i) s')
        (fun rest s'' => ∀ v H', Ex B.S H H' → SrcR B.S H' s'' → VR X.K B.S O H H' .own v (.list (ys ++ rest)) → Q v H') (wX C X.K B W σ H)
    have good : ∀ H', Ex B.S H1 H' → Good B.S O H1 xs.1 H' := fun H' e => by
      cases xs.1 with
      | true => exact e
      | false => exact ⟨O, r1.hid e⟩
    refine lc_it w Pv ⟨s1, [], [], q1.same (same_new nD), Ex.new nD, rb, upd_same, .nil, Nat.le_refl _, by simp only [List.drop_zero, List.nil_append]; exact h1⟩ (fun i H' _ p => ?_) (fun i x H' H'' hi p y => ?_) fun H' p => ?_
    · obtain ⟨s', acc, ys, _, e', _⟩ := p
      exact wg H' (good H' e')
    · obtain ⟨s', acc, ys, q', e', rr, hD, ra, hl, hq⟩ := p
      obtain ⟨d, hd, sm, rd⟩ := wy i x H' H'' (fun b => O b ∨ b = D) hi (good H' e') y rr.dom (hide_same (fun a o na ha => e' a o ha (r.nO na)) fun b z nb => z.elim (fun z => absurd z nb) fun z => by subst z; exact nD)
      have hdrop : xs.2.drop i = d :: xs.2.drop (i + 1) := by
        obtain ⟨h1, h2⟩ := List.getElem?_eq_some_iff.mp hd
        rw [← h2]
        exact List.drop_eq_getElem_cons h1
      rw [hdrop] at hq
      unfold compL at hq
      obtain ⟨env', b1, hq⟩ := hq.bind.bind.of
      have q'' := q'.same sm
      refine ⟨klE env ws, s', _, H', .frz, d, env', rr, .of sm, q'', rd, b1, fun σ2 O2 r2 m2 z2 sl2 l2 => ⟨?_, ?_⟩⟩
      · refine wipe_eq (by rw [l2, wipe_length]) fun j hj => sl2 j fun z => hj (hsl j z)
      · refine ⟨env', s', O2, r2, q'', (hq.bind.calm (W' := wX C X.K B W0 σ2 H'')).mono (fun b s3 hq H3 e3 q3 => ?_) fun _ _ _ z => z⟩
        have e03 := e'.trans ((Ex.of sm).trans e3)
        have e3' : Ex B.S H' H3 := (Ex.of sm).trans e3
        by_cases hk : truth b.2 = true
        · rw [if_pos hk] at hq
          show (if truth b.2 = true then _ else _)
          rw [if_pos hk]
          refine ⟨env', s3, O2, r2.ext e3 q3, q3, (hq.bind.calm (W' := wX C X.K B W0 σ2 H3)).mono (fun y s4 hq u H4 e4 q4 v4 => ?_) fun _ _ _ z => z⟩
          by_cases hp : y.1 = .peek
          · rw [if_pos hp] at hq; exact hq.elim
          rw [if_neg hp] at hq
          have e4' : Ex B.S H' H4 := e3'.trans e4
          have hD4 : H4 D = some (.lst acc) := e4' D _ hD nD1
          have r4 := rr.ext e4' q4
          -- what the element shows does not lead to the new list
          have ru : Rp X.K (hide H4 fun b => O b ∨ b = D) u y.2 := (v4.frz (r2.ext e3 q3).dom hp).mono (hide_less z2)
          refine ⟨acc, hD4, by omega, s4, acc ++ [u], ys ++ [y.2], q4.poke ⟨nD1, _, hD4⟩, fun a o ha n1 => ?_, r4.poke (.inr rfl) nH0 ns, upd_same, ?_, by rw [List.length_append]; simp; omega, ?_⟩
          · rw [upd_ne (fun z => by subst z; rw [nD] at ha; cases ha)]
            exact (e'.trans e4') a o ha n1
          · rw [hide_upd (.inr rfl)]
            exact (ra.mono (rr.hid e4')).app (.one ru)
          · have hq : RQ ((compL _ (xs.2.drop (i + 1)) s4).bind fun r s2 => .ok (y.2 :: r) s2) _ _ := hq
            refine hq.bind.mono (fun rest s5 hq => ?_) fun _ _ _ z => z
            rw [List.append_assoc]
            exact hq
        · rw [if_neg hk] at hq
          show (if truth b.2 = true then _ else _)
          rw [if_neg hk]
          have hq : RQ ((compL _ (xs.2.drop (i + 1)) s3).bind fun r s2 => .ok r s2) _ _ := hq
          refine ⟨s3, acc, ys, q3, e03, rr.ext e3' q3, e3' D _ hD nD1, ra.mono (rr.hid e3'), by omega, hq.bind.mono (fun rest s5 hq => hq) fun _ _ _ z => z⟩
    · obtain ⟨s', acc, ys, q', e', rr, hD, ra, hl, hq⟩ := p
      rw [List.drop_length] at hq
      have hq : ∀ v H'', Ex B.S H H'' → SrcR B.S H'' s' → VR X.K B.S O H H'' .own v (.list (ys ++ [])) → Q v H'' := hq
      rw [List.append_nil] at hq
      exact hq _ H' (e1.trans e') q' ⟨D, acc, ys, rfl, rfl, e1.free q1 nD, hD, ra⟩
  exact ⟨(pe_lc hx.calm hx.nd hi ok hg ht he hs).weak key, key⟩
end
end Tre
/-! Tre9: statements. -/
namespace Tre
open PySem PySem.Spec PyProof.Rows L2

/-- what is wanted behind a statement -/
def SPost (K : PySem.W.Frag) (B : Bx) (O : Addr → Prop) (H : Hp) (N : Ends) : Fl → Src → Prop
  | .next env', s' => ∀ σ' H' O', B.Rl K O' env' σ' H' → SrcR B.S H' s' → Same (hide H O) (hide H' O') → N.nx σ' H'
  | .brk env', s' => ∀ σ' H' O', B.Rl K O' env' σ' H' → SrcR B.S H' s' → Same (hide H O) (hide H' O') → N.bk σ' H'
  | .cnt env', s' => ∀ σ' H' O', B.Rl K O' env' σ' H' → SrcR B.S H' s' → Same (hide H O) (hide H' O') → N.ct σ' H'
  | .ret o d, s' => ∀ v H', Ex B.S B.H0 H' → SrcR B.S H' s' → VR K B.S B.O0 B.H0 H' (if o then .own else .frz) v d → N.rt v H'
theorem SPost.from {K : PySem.W.Frag} {B : Bx} {O O1 : Addr → Prop} {H H1 : Hp} {N : Ends} {fl : Fl} {s' : Src} (m : Same (hide H O) (hide H1 O1)) (h : SPost K B O H N fl s') : SPost K B O1 H1 N fl s' := by
  cases fl with
  | next env' => exact fun σ' H' O' r q m' => h σ' H' O' r q (m.trans m')
  | brk env' => exact fun σ' H' O' r q m' => h σ' H' O' r q (m.trans m')
  | cnt env' => exact fun σ' H' O' r q m' => h σ' H' O' r q (m.trans m')
  | ret o d => exact h
def wS (C : Cf) (K : PySem.W.Frag) (B : Bx) (W : WX) : Nat → List D → Src → Prop := fun c a s' => ∀ σ' H' cls d, Ex B.S B.H0 H' → SrcR B.S H' s' → XR K C.Xn H' c a cls d → W cls d σ' H'
def tS (C : Cf) (K : PySem.W.Frag) (B : Bx) (W : WX) (t : T) : TS := fun N σ H => ∃ env s O, B.Rl K O env σ H ∧ SrcR B.S H s ∧ RQ (evS C.Φ C.G t env s) (SPost K B O H N) (wS C K B W)
theorem wS.x {C : Cf} {K : PySem.W.Frag} {B : Bx} {W : WX} {O : Addr → Prop} {env : Env} {σ : L2.St} {H : Hp} (r : B.Rl K O env σ H) {c : Nat} {a : List D} {s' : Src} (h : wS C K B W c a s') : wX C K B W σ H c a s' :=
  fun H' cls d e q x => h σ H' cls d (r.same.trans e) q x
theorem _root_.L2.PS.weak {X : Cx} {e : Stmt} {t t' : TS} (h : PS X e t) (m : ∀ N σ H, t' N σ H → t N σ H) : PS X e t' := ⟨fun pins s σ H N I q => h.run pins s σ H N I (m N σ H q)⟩
theorem _root_.L2.PSs.weak {X : Cx} {e : List Stmt} {t t' : TS} (h : PSs X e t) (m : ∀ N σ H, t' N σ H → t N σ H) : PSs X e t' := ⟨fun pins s σ H N I q => h.run pins s σ H N I (m N σ H q)⟩

section
variable {K : PySem.W.Frag} {B : Bx} {O : Addr → Prop} {H : Hp} {env : Env} {σ : L2.St} {s : Src}
/-- what a slot owns is shown -/
theorem Rl.fz1 (r : B.Rl K O env σ H) (i : Nat) {o : Bool} {d : D} (e : env[i]? = some (.d o d)) : ∃ O', B.Rl K O' (env.set i (.d false d)) σ H ∧ Same (hide H O) (hide H O') := by
  cases o with
  | false => exact ⟨O, by rw [set_get_self env i _ e]; exact r, Same.refl _⟩
  | true =>
    have hi : i < env.length := (List.getElem?_eq_some_iff.mp e).1
    have hiσ : i < σ.length := by rw [← r.len]; exact hi
    have e2 : σ[i]? = some σ[i] := List.getElem?_eq_getElem hiσ
    obtain ⟨a, vs, ds, e3, rfl, p1, p2, p3, p4, p5⟩ := r.slots i _ _ e e2
    rw [e3] at e2
    have less : ∀ b, (O b ∧ b ≠ a) → O b := fun b h => h.1
    refine ⟨fun b => O b ∧ b ≠ a, ⟨by rw [List.length_set]; exact r.len, r.so, fun b h => ⟨r.sub b h, fun z => p4 (by rw [← z]; exact h)⟩, fun b h => r.dom b h.1, r.dom0, r.same, fun j x p x1 x2 => ?_, fun j l d1 d2 b x1 x2 x3 x4 => ?_⟩, hide_less less⟩
    · by_cases hj : i = j
      · subst hj
        rw [List.getElem?_set_self hi] at x1
        cases x1
        rw [e2] at x2
        cases x2
        exact ⟨_, rfl, .lst (by rw [hide_out (fun z => z.2 rfl)]; exact p1) (p2.mono (hide_less less))⟩
      · rw [List.getElem?_set_ne hj] at x1
        have q := r.slots j x p x1 x2
        cases x with
        | e => trivial
        | src => exact q
        | d k d =>
          cases k with
          | false =>
            obtain ⟨v, rfl, q⟩ := q
            exact ⟨v, rfl, q.mono (hide_less less)⟩
          | true =>
            obtain ⟨b, ws, es, rfl, rfl, q1, q2, q3, q4, q5⟩ := q
            refine ⟨b, ws, es, rfl, rfl, q1, q2.mono (hide_less less), ⟨q3, fun z => ?_⟩, q4, q5⟩
            subst z
            exact hj (r.inj i j _ _ _ e x1 e2 x2)
    · have ne : ∀ (m : Nat) (dd : D), (env.set i (Slot.d false (.list ds)))[m]? = some (Slot.d true dd) → i ≠ m := fun m dd q z => by
        subst z
        rw [List.getElem?_set_self hi] at q
        cases q
      have n1 := ne j d1 x1
      have n2 := ne l d2 x2
      rw [List.getElem?_set_ne n1] at x1
      rw [List.getElem?_set_ne n2] at x2
      exact r.inj j l d1 d2 b x1 x2 x3 x4
theorem Rl.fz (r : B.Rl K O env σ H) : ∀ is : List Nat, ∃ O', B.Rl K O' (fzE env is) σ H ∧ Same (hide H O) (hide H O')
  | [] => ⟨O, r, Same.refl _⟩
  | i :: is => by
    obtain ⟨O1, r1, m1⟩ := Rl.fz r is
    show ∃ O', B.Rl K O' (match (fzE env is)[i]? with
      | some (.d _ x) => (fzE env is).set i (.d false x)
      | _ => fzE env is) σ H ∧ _
    cases e : (fzE env is)[i]? with
    | none => exact ⟨O1, r1, m1⟩
    | some sl =>
      cases sl with
      | e => exact ⟨O1, r1, m1⟩
      | src => exact ⟨O1, r1, m1⟩
      | d o x =>
        obtain ⟨O2, r2, m2⟩ := r1.fz1 i e
        exact ⟨O2, r2, m1.trans m2⟩
/-- the owned list of a slot is written -/
theorem Rl.write (r : B.Rl K O env σ H) {i : Nat} {d : D} {a : Addr} {vs : List V} {ds : List D} (e1 : env[i]? = some (.d true d)) (e2 : σ[i]? = some (some (.ref a))) (h : RpA K (hide H O) vs ds) :
    B.Rl K O (env.set i (.d true (.list ds))) σ (upd H a (.lst vs)) ∧ Same (hide H O) (hide (upd H a (.lst vs)) O) ∧ Pk B.S H a := by
  obtain ⟨ws, es, rfl, p1, p2, p3, p4, p5⟩ := r.owned e1 e2
  have n1 : ¬ B.S.Out a := r.nO0 p4
  have hi : i < env.length := (List.getElem?_eq_some_iff.mp e1).1
  refine ⟨⟨by rw [List.length_set]; exact r.len, r.so, r.sub, fun b hb => ?_, r.dom0, fun b p x1 x2 => ?_, fun j x p x1 x2 => ?_, fun j l d1 d2 b x1 x2 x3 x4 => ?_⟩, by rw [hide_upd p3]; exact Same.refl _, n1, _, p1⟩
  · by_cases e : b = a
    · subst e; rw [upd_same]; exact fun z => nomatch z
    · rw [upd_ne e]; exact r.dom b hb
  · rw [upd_ne (fun z => by subst z; rw [p5] at x1; cases x1)]
    exact r.same b p x1 x2
  · by_cases hj : i = j
    · subst hj
      rw [List.getElem?_set_self hi] at x1
      cases x1
      rw [e2] at x2
      cases x2
      exact ⟨a, vs, ds, rfl, rfl, upd_same, by rw [hide_upd p3]; exact h, p3, p4, p5⟩
    · rw [List.getElem?_set_ne hj] at x1
      have q := r.slots j x p x1 x2
      cases x with
      | e => trivial
      | src => exact q
      | d k d =>
        cases k with
        | false =>
          obtain ⟨v, rfl, q⟩ := q
          exact ⟨v, rfl, by rw [hide_upd p3]; exact q⟩
        | true =>
          obtain ⟨b, ws', es', rfl, rfl, q1, q2, q3, q4, q5⟩ := q
          refine ⟨b, ws', es', rfl, rfl, ?_, by rw [hide_upd p3]; exact q2, q3, q4, q5⟩
          rw [upd_ne (fun z => by subst z; exact hj (r.inj i j _ _ _ e1 x1 e2 x2))]
          exact q1
  · have red : ∀ (m : Nat) (dd : D), (env.set i (Slot.d true (.list ds)))[m]? = some (Slot.d true dd) → ∃ d' : D, env[m]? = some (Slot.d true d') := fun m dd q => by
      by_cases hm : i = m
      · subst hm; exact ⟨_, e1⟩
      · rw [List.getElem?_set_ne hm] at q
        exact ⟨_, q⟩
    obtain ⟨d1', y1⟩ := red j d1 x1
    obtain ⟨d2', y2⟩ := red l d2 x2
    exact r.inj j l d1' d2' b y1 y2 x3 x4
theorem ownL_some {i : Nat} {ds : List D} (h : ownL env i = some ds) : env[i]? = some (.d true (.list ds)) := by
  unfold ownL at h
  split at h
  · cases h; assumption
  · cases h
theorem Rl.own (r : B.Rl K O env σ H) {i : Nat} {ds : List D} (h : ownL env i = some ds) : ∃ a vs, σ[i]? = some (some (.ref a)) ∧ H a = some (.lst vs) ∧ RpA K (hide H O) vs ds := by
  have e := ownL_some h
  have hi : i < env.length := (List.getElem?_eq_some_iff.mp e).1
  have hiσ : i < σ.length := by rw [← r.len]; exact hi
  have e2 : σ[i]? = some σ[i] := List.getElem?_eq_getElem hiσ
  obtain ⟨a, vs, ds', e3, e4, p1, p2, _⟩ := r.slots i _ _ e e2
  cases e4
  exact ⟨a, vs, by rw [e2, e3], p1, p2⟩
end

/-- where statements stand -/
structure SX (C : Cf) (k : Nat) (fns cns : List Str) (X : Cx) (W : WX) : Prop where
  hx : HX C k fns cns X
  tk : Takes X W
  hp : PassesOwn (model X.prog X.w) X.A X.env X.xe
  fn : ∀ x, X.fn x = true
  kind : X.env.scope.kind = .function
  xc : ∀ (c : Nat) (x : Str) (ar : Nat), C.xcs[c]? = some (x, ar) → XcOk C X c x ar

section
variable {C : Cf} {k : Nat} {fns cns : List Str} {X : Cx} {B : Bx} {W : WX}
/-! ### blocks -/
theorem jss_nil : PSs X [] (tS C X.K B W .nil) := by
  refine pss_nil.weak fun N σ H => ?_
  rintro ⟨env, s, O, r, q, h⟩
  exact h σ H O r q (Same.refl _)
theorem jss_cons {st : Stmt} {rest : List Stmt} {t u : T} (h1 : PS X st (tS C X.K B W t)) (h2 : PSs X rest (tS C X.K B W u)) : PSs X (st :: rest) (tS C X.K B W (.seq t u)) := by
  refine (pss_cons h1 h2).weak fun N σ H => ?_
  rintro ⟨env, s, O, r, q, h⟩
  unfold evS at h
  refine ⟨env, s, O, r, q, h.bind.mono (fun fl s1 h1 => ?_) fun _ _ _ z => z⟩
  cases fl with
  | next env' => exact fun σ' H' O' r' q' m' => ⟨env', s1, O', r', q', RQ.mono h1 (fun fl s2 h2 => h2.from m') fun _ _ _ z => z⟩
  | brk env' => exact h1
  | cnt env' => exact h1
  | ret o d => exact h1
theorem jss_fz {sts : List Stmt} {is : List Nat} {t : T} (h : PSs X sts (tS C X.K B W t)) : PSs X sts (tS C X.K B W (.fz is t)) := by
  refine h.weak fun N σ H => ?_
  rintro ⟨env, s, O, r, q, h⟩
  unfold evS at h
  obtain ⟨O1, r1, m1⟩ := r.fz is
  exact ⟨fzE env is, s, O1, r1, q, h.mono (fun fl s2 h2 => h2.from m1) fun _ _ _ z => z⟩
theorem jss_kl {sts : List Stmt} {is : List Nat} {t : T} (h : PSs X sts (tS C X.K B W t)) : PSs X sts (tS C X.K B W (.kl is t)) := by
  refine h.weak fun N σ H => ?_
  rintro ⟨env, s, O, r, q, h⟩
  unfold evS at h
  exact ⟨klE env is, s, O, r.kl is, q, h⟩
theorem js_pass {pos : Pos} : PS X (.Pass pos) (tS C X.K B W .pass) := by
  refine ps_pass.weak fun N σ H => ?_
  rintro ⟨env, s, O, r, q, h⟩
  exact h σ H O r q (Same.refl _)
theorem js_brk {pos : Pos} : PS X (.Break pos) (tS C X.K B W .brk) := by
  refine ps_break.weak fun N σ H => ?_
  rintro ⟨env, s, O, r, q, h⟩
  exact h σ H O r q (Same.refl _)
theorem js_cnt {pos : Pos} : PS X (.Continue pos) (tS C X.K B W .cnt) := by
  refine ps_continue.weak fun N σ H => ?_
  rintro ⟨env, s, O, r, q, h⟩
  exact h σ H O r q (Same.refl _)

/-! ### values -/
theorem js_ex {e : Expr} {t : T} {pos : Pos} (he : JE C X B W e t) (hs : swapsWith e none pos.line X.env = pure false) : PS X (.Expr e pos) (tS C X.K B W (.ex t)) := by
  refine (ps_expr he.e hs).weak fun N σ H => ?_
  rintro ⟨env, s, O, r, q, h⟩
  unfold evS at h
  refine eOne r q (h.bind.mono (fun x s1 h1 => ?_) fun _ _ _ z => wS.x r z)
  intro u H1 e1 q1 v1
  exact h1 σ H1 O (r.ext e1 q1) q1 (r.hid e1)
theorem ret_vr {O : Addr → Prop} {env : Env} {σ : L2.St} {H H1 : Hp} {kd : Kd} {u : V} {d : D} {s1 : Src} (r : B.Rl X.K O env σ H) (e1 : Ex B.S H H1) (q1 : SrcR B.S H1 s1) (v1 : VR X.K B.S O H H1 kd u d) (hk : kd ≠ .peek) :
    VR X.K B.S B.O0 B.H0 H1 (if decide (kd = .own) then .own else .frz) u d := by
  cases kd with
  | peek => contradiction
  | frz => exact Rp.mono (hide_less fun a z => r.sub a z) v1
  | own =>
    obtain ⟨a, vs, ds, rfl, rfl, n, t, p⟩ := v1
    have n1 := r.nsrc n
    refine ⟨a, vs, ds, rfl, rfl, ?_, t, p.mono (hide_less fun b z => z.elim (fun z => .inl (r.sub b z)) .inr)⟩
    cases p0 : B.H0 a with
    | none => rfl
    | some o => rw [r.same a o p0 n1] at n; cases n
theorem js_ret {e : Expr} {t : T} {pos : Pos} (he : JE C X B W e t) : PS X (.Return (some e) pos) (tS C X.K B W (.ret t)) := by
  refine (ps_ret he.e).weak fun N σ H => ?_
  rintro ⟨env, s, O, r, q, h⟩
  unfold evS at h
  refine eOne r q (h.bind.mono (fun x s1 h1 => ?_) fun _ _ _ z => wS.x r z)
  intro u H1 e1 q1 v1
  by_cases hk : x.1 = .peek
  · rw [if_pos hk] at h1; exact h1.elim
  rw [if_neg hk] at h1
  exact h1 u H1 (r.same.trans e1) q1 (ret_vr r e1 q1 v1 hk)
theorem js_retv {i : Nat} {x : Str} {pos ps : Pos} (hN : X.N[i]? = some x) (hv : Vis X.env.scope x) (hd : (x == ("__debug__" : Str)) = false) (hcd : (x == ("__classdict__" : Str)) = false) : PS X (.Return (some (.Name x ps)) pos) (tS C X.K B W (.retv i)) := by
  refine (ps_ret (pe_var hN hv hd hcd)).weak fun N σ H => ?_
  rintro ⟨env, s, O, r, q, h⟩
  unfold evS at h
  split at h
  · rename_i o d e1
    have hi : i < σ.length := by
      rw [← r.len]
      exact (List.getElem?_eq_some_iff.mp e1).1
    have e2 : σ[i]? = some σ[i] := List.getElem?_eq_getElem hi
    have so := r.slots i _ _ e1 e2
    cases o with
    | false =>
      obtain ⟨v, e3, p⟩ := so
      exact ⟨v, by rw [e2, e3], h v H r.same q (Rp.mono (hide_less fun a z => r.sub a z) p)⟩
    | true =>
      obtain ⟨a, vs, ds, e3, rfl, p1, p2, p3, p4, p5⟩ := so
      refine ⟨_, by rw [e2, e3], h _ H r.same q ⟨a, vs, ds, rfl, rfl, p5, p1, p2.mono (hide_less fun b z => ?_)⟩⟩
      rcases z with z | rfl
      · exact r.sub b z
      · exact p3
  · exact h.elim
theorem js_retn {pos : Pos} : PS X (.Return none pos) (tS C X.K B W .retn) := by
  refine ps_retN.weak fun N σ H => ?_
  rintro ⟨env, s, O, r, q, h⟩
  exact h .non H r.same q Rp.non

/-! ### tests and loops -/
theorem js_ifs {c : Expr} {a b : List Stmt} {tc ta tb : T} {pos : Pos} (hc : JE C X B W c tc) (ha : PSs X a (tS C X.K B W ta)) (hb : PSs X b (tS C X.K B W tb)) : PS X (.If c a b pos) (tS C X.K B W (.ifs tc ta tb)) := by
  refine (ps_if hc.t ha hb).weak fun N σ H => ?_
  rintro ⟨env, s, O, r, q, h⟩
  unfold evS at h
  refine ⟨env, s, O, r, q, h.bind.mono (fun x s1 h1 H1 e1 q1 => ?_) fun _ _ _ z => wS.x r z⟩
  have m1 := r.hid e1
  by_cases hk : truth x.2 = true
  · rw [if_pos hk] at h1
    show (if truth x.2 = true then _ else _)
    rw [if_pos hk]
    exact ⟨env, s1, O, r.ext e1 q1, q1, h1.mono (fun fl s2 h2 => h2.from m1) fun _ _ _ z => z⟩
  · rw [if_neg hk] at h1
    show (if truth x.2 = true then _ else _)
    rw [if_neg hk]
    exact ⟨env, s1, O, r.ext e1 q1, q1, h1.mono (fun fl s2 h2 => h2.from m1) fun _ _ _ z => z⟩
theorem js_for (sx : SX C k fns cns X W) {tg iter : Expr} {body : List Stmt} {tt ti tb : T} {pos : Pos} (hi : PI X tg iter (tI C X.K B W ti)) (hg : PG X tg (tGt X.K B tt)) (hb : PSs X body (tS C X.K B W tb)) (hs : ∀ x, foldedSetIterable iter X.env x = pure x) :
    PS X (.For tg iter body [] pos) (tS C X.K B W (.for tt ti tb)) := by
  refine (ps_for sx.hp sx.hx.calm hi hg hb hs).weak fun N σ H => ?_
  rintro ⟨env, s, O, r, q, h⟩
  unfold evS at h
  refine ⟨env, s, O, r, q, h.bind.mono (fun xs s1 h1 => ?_) fun _ _ _ z => wS.x r z⟩
  intro H1 J e1 q1 wk
  obtain ⟨pk, ds⟩ := xs
  cases pk with
  | true => exact h1.elim
  | false =>
    have h1 : RQ (forL (fun x env s => (R.of (bindT tt (.frz, x) env) s).bind fun env' s => evS C.Φ C.G tb env' s) ds env s1) (SPost X.K B O H N) (wS C X.K B W) := h1
    obtain ⟨Gd, Y, w, wg, wy⟩ := wk
    have m01 := r.hid e1
    refine for_it w (fun i σ' H' => ∃ env' s' O', B.Rl X.K O' env' σ' H' ∧ SrcR B.S H' s' ∧ Same (hide H1 O) (hide H' O') ∧ RQ (forL (fun x env s => (R.of (bindT tt (.frz, x) env) s).bind fun env' s => evS C.Φ C.G tb env' s) (ds.drop i) env' s') (SPost X.K B O H N) (wS C X.K B W))
      ⟨env, s1, O, r.ext e1 q1, q1, Same.refl _, by rw [List.drop_zero]; exact h1⟩ (fun i σ' H' _ p => ?_) (fun i x σ' H' H'' hi p y => ?_) fun σ' H' p => ?_
    · obtain ⟨env', s', O', r', q', m', _⟩ := p
      exact wg H' ⟨O', m'⟩
    · obtain ⟨env', s', O', r', q', m', hq⟩ := p
      obtain ⟨d, hd, sm, rd⟩ := wy i x H' H'' O' hi ⟨O', m'⟩ y r'.dom m'
      have hdrop : ds.drop i = d :: ds.drop (i + 1) := by
        obtain ⟨h1, h2⟩ := List.getElem?_eq_some_iff.mp hd
        rw [← h2]
        exact List.drop_eq_getElem_cons h1
      rw [hdrop] at hq
      unfold forL at hq
      obtain ⟨env2, b1, hq⟩ := hq.bind.bind.of
      refine ⟨env', s', O', H', .frz, d, env2, r', .of sm, q'.same sm, rd, b1, fun σ2 O2 r2 m2 z2 _ _ => ?_⟩
      have m12 : Same (hide H1 O) (hide H'' O2) := m'.trans m2
      refine ⟨env2, s', O2, r2, q'.same sm, hq.mono (fun fl s3 h3 => ?_) fun _ _ _ z => z⟩
      cases fl with
      | next env3 => exact fun σ3 H3 O3 r3 q3 m3 => ⟨env3, s3, O3, r3, q3, m12.trans m3, h3⟩
      | cnt env3 => exact fun σ3 H3 O3 r3 q3 m3 => ⟨env3, s3, O3, r3, q3, m12.trans m3, h3⟩
      | brk env3 => exact fun σ3 H3 O3 r3 q3 m3 => h3 σ3 H3 O3 r3 q3 (m01.trans (m12.trans m3))
      | ret o d => exact h3
    · obtain ⟨env', s', O', r', q', m', hq⟩ := p
      rw [List.drop_length] at hq
      exact hq σ' H' O' r' q' (m01.trans m')
theorem js_wh (sx : SX C k fns cns X W) {c : Expr} {body : List Stmt} {z : List Nat} {tc tb : T} {pos : Pos} (hc : JE C X B W c tc) (hb : PSs X body (tS C X.K B W tb)) : PS X (.While c body [] pos) (tS C X.K B W (.wh z tc tb)) := by
  refine (ps_while sx.hp hc.t hb).weak fun N σ H => ?_
  rintro ⟨env, s, O, r, q, h⟩
  unfold evS whR at h
  split at h
  case isFalse => exact h.elim
  case isTrue ex =>
  generalize hr : ex.choose = res at h
  have hn := ex.choose_spec
  rw [hr] at hn
  obtain ⟨n0, hn⟩ := hn
  refine ⟨fun n σ' H' => ∃ env' s' O', B.Rl X.K O' env' σ' H' ∧ SrcR B.S H' s' ∧ Same (hide H O) (hide H' O') ∧ whN (fun env s => (evE C.Φ C.G tc env s).bind fun x s => .ok x.2 s) (fun env s => evS C.Φ C.G tb env s) z n env' s' = some res, ⟨n0, env, s, O, r, q, Same.refl _, hn⟩, ?_⟩
  rintro n σ' H' ⟨env', s', O', r', q', m', hn⟩
  cases n with
  | zero => cases hn
  | succ n =>
    unfold whN at hn
    obtain ⟨O1, r1, m1⟩ := r'.fz z
    refine ⟨fzE env' z, s', O1, r1, q', ?_⟩
    cases hE : evE C.Φ C.G tc (fzE env' z) s' with
    | stuck =>
      rw [hE] at hn
      cases hn
      exact h.elim
    | exc c a s1 =>
      rw [hE] at hn
      cases hn
      exact wS.x r1 h
    | ok x s1 =>
      rw [hE] at hn
      have hn : (if truth x.2 = true then _ else _) = some res := hn
      show ∀ H1, Ex B.S H' H1 → SrcR B.S H1 s1 → _
      intro H1 e1 q1
      have r2 := r1.ext e1 q1
      have m2 : Same (hide H O) (hide H1 O1) := m'.trans (m1.trans (r1.hid e1))
      by_cases hk : truth x.2 = true
      · rw [if_pos hk] at hn
        show (if truth x.2 = true then _ else _)
        rw [if_pos hk]
        refine ⟨fun σ3 H3 => ∃ env3 s3 O3, B.Rl X.K O3 env3 σ3 H3 ∧ SrcR B.S H3 s3 ∧ Same (hide H O) (hide H3 O3) ∧ whN (fun env s => (evE C.Φ C.G tc env s).bind fun x s => .ok x.2 s) (fun env s => evS C.Φ C.G tb env s) z n env3 s3 = some res,
          fun σ3 H3 h3 => ⟨n, Nat.lt_succ_self n, h3⟩, fzE env' z, s1, O1, r2, q1, ?_⟩
        cases hB : evS C.Φ C.G tb (fzE env' z) s1 with
        | stuck => rw [hB] at hn; cases hn; exact h.elim
        | exc c a s2 => rw [hB] at hn; cases hn; exact h
        | ok fl s2 =>
          rw [hB] at hn
          cases fl with
          | next env3 => exact fun σ3 H3 O3 r3 q3 m3 => ⟨env3, s2, O3, r3, q3, m2.trans m3, hn⟩
          | cnt env3 => exact fun σ3 H3 O3 r3 q3 m3 => ⟨env3, s2, O3, r3, q3, m2.trans m3, hn⟩
          | brk env3 => cases hn; exact fun σ3 H3 O3 r3 q3 m3 => h σ3 H3 O3 r3 q3 (m2.trans m3)
          | ret o d => cases hn; exact h
      · rw [if_neg hk] at hn
        show (if truth x.2 = true then _ else _)
        rw [if_neg hk]
        cases hn
        exact h σ' H1 O1 r2 q1 m2
end
end Tre
/-! Tre10: assignments, changes of owned lists. -/
namespace Tre
open PySem PySem.Spec PyProof.Rows L2

section
variable {C : Cf} {k : Nat} {fns cns : List Str} {X : Cx} {B : Bx} {W : WX}
theorem js_asg {tg e : Expr} {tt te : T} {pos : Pos} (he : JE C X B W e te) (hg : PG X tg (tGt X.K B tt)) (hs : swapsWithSole [tg] e pos.line X.env = pure false) (hw : swappedStores [tg] e X.env = pure none)
    (h1 : (assignEach [tg] X.env).map (·.2) = [assign tg X.env]) : PS X (.Assign [tg] e pos) (tS C X.K B W (.asg tt te)) := by
  refine (ps_asg he.e hg hs hw h1).weak fun N σ H => ?_
  rintro ⟨env, s, O, r, q, h⟩
  unfold evS at h
  refine eOne r q (h.bind.mono (fun x s1 h1 => ?_) fun _ _ _ z => wS.x r z)
  intro u H1 e1 q1 v1
  obtain ⟨fl, e2, h2⟩ := h1.of
  obtain ⟨env', e3, e4⟩ := Option.map_eq_some_iff.mp e2
  subst e4
  exact ⟨env, s1, O, H, x.1, x.2, env', r, e1, q1, v1, e3, fun σ' O' r' m' _ _ _ => h2 σ' H1 O' r' q1 m'⟩
/-- name = [..] where the store is the comprehension's own -/
theorem js_asgLc (sx : SX C k fns cns X W) {i : Nat} {y : Str} {elt tg iter : Expr} {ifs : List Expr} {scope : Scope} {own : List (Str × Nat)} {py pos spos : Pos} {t0 tt ti tc te : T} (ht0 : t0 = .v i ∨ t0 = .ov i) (hy : X.N[i]? = some y)
    (hyl : X.env.scope.names.lookup y = some .local) (hsw : swapsWith (.ListComp elt [⟨tg, iter, ifs, 0⟩] scope pos) (some (.Name y py)) spos.line X.env = pure true)
    (hi : PI X tg iter (tI C X.K B W ti)) (ok : BlkOk X.N X.env.scope scope own) (hsl : ∀ j ∈ slotsT tt, j ∈ own.map (·.2))
    (hg : ∀ (s : Shared) (H : Hp) (A : Addr) (cl : List (Str × Addr)) (fp : List Addr), PG (X.blk s H scope (compEnvC scope cl A X.env) fp) tg (tGt X.K B tt))
    (ht : ∀ (s : Shared) (H : Hp) (A : Addr) (cl : List (Str × Addr)) (fp : List Addr), PTs (X.blk s H scope (compEnvC scope cl A X.env) fp) ifs (tT C X.K B W0 tc))
    (he : ∀ (s : Shared) (H : Hp) (A : Addr) (cl : List (Str × Addr)) (fp : List Addr), PE (X.blk s H scope (compEnvC scope cl A X.env) fp) elt (tE C X.K B W0 te))
    (hs : ∀ x, foldedSetIterable iter X.env x = pure x) :
    PS X (.Assign [.Name y py] (.ListComp elt [⟨tg, iter, ifs, 0⟩] scope pos) spos) (tS C X.K B W (.asg t0 (.lc tt ti tc te (own.map (·.2))))) := by
  have key := (je_lc (W := W) (pos := pos) sx.hx hi ok hsl hg ht he hs).2
  refine (ps_setLc sx.hx.calm sx.hx.nd hy hyl hsw hi ok hg ht he hs).weak fun N σ H => ?_
  rintro ⟨env, s, O, r, q, h⟩
  unfold evS at h
  refine key σ H _ (eOne r q (h.bind.mono (fun x s1 h1 => ?_) fun _ _ _ z => wS.x r z))
  intro u H1 e1 q1 v1
  obtain ⟨fl, e2, h2⟩ := h1.of
  obtain ⟨env', e3, e4⟩ := Option.map_eq_some_iff.mp e2
  subst e4
  have fin : tGt X.K B t0 u σ H1 N.nx := ⟨env, s1, O, H, x.1, x.2, env', r, e1, q1, v1, e3, fun σ' O' r' m' _ _ _ => h2 σ' H1 O' r' q1 m'⟩
  rcases ht0 with rfl | rfl
  · exact name_v fin
  · exact name_ov fin

/-! ### several at once -/
/-- values to be stored, all of the new lists hidden -/
def VRc (K : PySem.W.Frag) (B : Bx) (O : Addr → Prop) (H : Hp) : List V → List (Kd × D) → Prop
  | [], [] => True
  | v :: vs, (.frz, d) :: xs => Rp K (hide H O) v d ∧ VRc K B O H vs xs
  | v :: vs, (.own, d) :: xs => (∃ a us ds, v = .ref a ∧ d = .list ds ∧ O a ∧ ¬ B.O0 a ∧ B.H0 a = none ∧ H a = some (.lst us) ∧ RpA K (hide H O) us ds) ∧ VRc K B O H vs xs
  | _ :: vs, (.peek, _) :: xs => VRc K B O H vs xs
  | _, _ => False
def owns : List V → List (Kd × D) → List Addr
  | .ref a :: vs, (.own, _) :: xs => a :: owns vs xs
  | _ :: vs, _ :: xs => owns vs xs
  | _, _ => []
def tP (C : Cf) (K : PySem.W.Frag) (B : Bx) (W : WX) (t : T) : TA := fun σ H Q => ∃ env s O, B.Rl K O env σ H ∧ SrcR B.S H s ∧ RQ (evA C.Φ C.G t env s) (fun xs s' =>
  ∀ vs H' O', B.Rl K O' env σ H' → SrcR B.S H' s' → Ex B.S H H' → Same (hide H O) (hide H' O') → (∀ a, O a → O' a) → VRc K B O' H' vs xs → (owns vs xs).Nodup → (∀ a ∈ owns vs xs, H a = none) → Q vs H') (wX C K B W σ H)
theorem VRc.len {K : PySem.W.Frag} {B : Bx} {O : Addr → Prop} {H : Hp} : ∀ {vs : List V} {xs : List (Kd × D)}, VRc K B O H vs xs → vs.length = xs.length
  | [], [], _ => rfl
  | _ :: vs, (.frz, _) :: xs, h => congrArg (· + 1) (VRc.len h.2)
  | _ :: vs, (.own, _) :: xs, h => congrArg (· + 1) (VRc.len h.2)
  | _ :: vs, (.peek, _) :: xs, h => congrArg (· + 1) (VRc.len (vs := vs) (xs := xs) h)
  | [], _ :: _, h => h.elim
  | _ :: _, [], h => h.elim
theorem jp_nil : PA X [] (tP C X.K B W .nil) := by
  refine pa_nil.weak fun σ H Q => ?_
  rintro ⟨env, s, O, r, q, h⟩
  exact h [] H O r q (Ex.refl _ _) (Same.refl _) (fun _ z => z) trivial .nil (fun _ z => nomatch z)
theorem jp_cons {e : Expr} {es : List Expr} {t u : T} (he : JE C X B W e t) (hr : PA X es (tP C X.K B W u)) (hs : isStar e = false) : PA X (e :: es) (tP C X.K B W (.cons t u)) := by
  refine (pa_cons he.e hr (star_cons hs)).weak fun σ H Q => ?_
  rintro ⟨env, s, O, r, q, h⟩
  unfold evA at h
  refine eOne r q (h.bind.mono (fun x s1 h1 => ?_) fun _ _ _ z => z)
  intro v H1 e1 q1 v1
  obtain ⟨kd, d⟩ := x
  have r1 := r.ext e1 q1
  cases kd with
  | frz =>
    refine ⟨env, s1, O, r1, q1, h1.bind.mono (fun xs s2 h2 => ?_) fun c a s' z => wX.ext (s1 := s1) e1 z⟩
    intro vs H2 O2 r2 q2 e2 m2 z2 v2 n2 f2
    have ow : owns (v :: vs) ((Kd.frz, d) :: xs) = owns vs xs := by cases v <;> rfl
    exact h2 (v :: vs) H2 O2 r2 q2 (e1.trans e2) ((r.hid e1).trans m2) z2 ⟨Rp.mono m2 v1, v2⟩ (by rw [ow]; exact n2) (by rw [ow]; exact fun a ha => e1.free q1 (f2 a ha))
  | peek =>
    refine ⟨env, s1, O, r1, q1, h1.bind.mono (fun xs s2 h2 => ?_) fun c a s' z => wX.ext (s1 := s1) e1 z⟩
    intro vs H2 O2 r2 q2 e2 m2 z2 v2 n2 f2
    have ow : owns (v :: vs) ((Kd.peek, d) :: xs) = owns vs xs := by cases v <;> rfl
    exact h2 (v :: vs) H2 O2 r2 q2 (e1.trans e2) ((r.hid e1).trans m2) z2 v2 (by rw [ow]; exact n2) (by rw [ow]; exact fun a ha => e1.free q1 (f2 a ha))
  | own =>
    obtain ⟨a, us, ds, rfl, rfl, n, t, p⟩ := v1
    have n1 := r.nsrc n
    have rh := r.hideNew e1 q1 n (by rw [t]; exact fun z => nomatch z)
    refine ⟨env, s1, _, rh, q1, h1.bind.mono (fun xs s2 h2 => ?_) fun c a s' z => wX.ext (s1 := s1) e1 z⟩
    intro vs H2 O2 r2 q2 e2 m2 z2 v2 n2 f2
    have m1 : Same (hide H O) (hide H1 fun b => O b ∨ b = a) := hide_same (fun b o nb hb => e1 b o hb (r.nO nb)) fun b z nb => z.elim (fun z => absurd z nb) fun z => by subst z; exact n
    refine h2 (.ref a :: vs) H2 O2 r2 q2 (e1.trans e2) (m1.trans m2) (fun b z => z2 b (.inl z)) ⟨⟨a, us, ds, rfl, rfl, z2 a (.inr rfl), fun z => r.dom a (r.sub a z) n, ?_, e2 a _ t n1, p.mono m2⟩, v2⟩ (List.nodup_cons.mpr ⟨fun z => ?_, n2⟩) fun b hb => ?_
    · cases p0 : B.H0 a with
      | none => rfl
      | some o => rw [r.same a o p0 n1] at n; cases n
    · rw [f2 a z] at t; cases t
    · rcases List.mem_cons.mp hb with rfl | hb
      · exact n
      · exact e1.free q1 (f2 b hb)
/-- a hidden list becomes a slot's own -/
theorem Rl.setH {K : PySem.W.Frag} {O : Addr → Prop} {H : Hp} {env : Env} {σ : L2.St} (r : B.Rl K O env σ H) {i : Nat} {a : Addr} {vs : List V} {ds : List D} (h1 : O a) (h2 : ¬ B.O0 a) (h3 : B.H0 a = none) (t : H a = some (.lst vs)) (h : RpA K (hide H O) vs ds)
    (f : ∀ (j : Nat) (d : D), env[j]? = some (Slot.d true d) → σ[j]? ≠ some (some (V.ref a))) : B.Rl K O (env.set i (.d true (.list ds))) (σ.set i (some (.ref a))) H := by
  refine ⟨by rw [List.length_set, List.length_set]; exact r.len, r.so, r.sub, r.dom, r.dom0, r.same, fun j x o e1 e2 => ?_, fun j l d1 d2 b e1 e2 e3 e4 => ?_⟩
  · by_cases hj : i = j
    · subst hj
      have hi : i < env.length := by
        have := (List.getElem?_eq_some_iff.mp e1).1
        rwa [List.length_set] at this
      rw [List.getElem?_set_self hi] at e1
      rw [List.getElem?_set_self (by rw [← r.len]; exact hi)] at e2
      cases e1; cases e2
      exact ⟨a, vs, ds, rfl, rfl, t, h, h1, h2, h3⟩
    · rw [List.getElem?_set_ne hj] at e1 e2
      exact r.slots j x o e1 e2
  · have at_ : ∀ m : Nat, i = m → ∀ (dd : D) (bb : Addr), (env.set i (Slot.d true (.list ds)))[m]? = some (Slot.d true dd) → (σ.set i (some (V.ref a)))[m]? = some (some (V.ref bb)) → bb = a := fun m hm dd bb x1 x2 => by
      subst hm
      have hi : i < env.length := by
        have := (List.getElem?_eq_some_iff.mp x1).1
        rwa [List.length_set] at this
      rw [List.getElem?_set_self (by rw [← r.len]; exact hi)] at x2
      cases x2; rfl
    by_cases hj : i = j
    · by_cases hl : i = l
      · rw [← hj, ← hl]
      · have eb := at_ j hj _ _ e1 e3
        subst eb
        rw [List.getElem?_set_ne hl] at e2 e4
        exact (f l d2 e2 e4).elim
    · by_cases hl : i = l
      · have eb := at_ l hl _ _ e2 e4
        subst eb
        rw [List.getElem?_set_ne hj] at e1 e3
        exact (f j d1 e1 e3).elim
      · rw [List.getElem?_set_ne hj] at e1 e3
        rw [List.getElem?_set_ne hl] at e2 e4
        exact r.inj j l d1 d2 b e1 e2 e3 e4
/-- the slots of plain targets -/
def namesT : T → Option (List Nat)
  | .nil => some []
  | .cons (.ov i) r => (namesT r).map (i :: ·)
  | _ => none
def setAll (σ : L2.St) : List Nat → List V → L2.St
  | i :: is, v :: vs => setAll (σ.set i (some v)) is vs
  | _, _ => σ
theorem free_set {env : Env} {σ : L2.St} {i : Nat} {a : Addr} {x : Slot} {v : V} (hx : ∀ d : D, x = .d true d → v ≠ .ref a) (hl : env.length = σ.length) (f : ∀ (j : Nat) (d : D), env[j]? = some (Slot.d true d) → σ[j]? ≠ some (some (V.ref a))) :
    ∀ (j : Nat) (d : D), (env.set i x)[j]? = some (Slot.d true d) → (σ.set i (some v))[j]? ≠ some (some (V.ref a)) := fun j d e1 e2 => by
  by_cases hj : i = j
  · subst hj
    have hi : i < env.length := by
      have := (List.getElem?_eq_some_iff.mp e1).1
      rwa [List.length_set] at this
    rw [List.getElem?_set_self hi] at e1
    rw [List.getElem?_set_self (by rw [← hl]; exact hi)] at e2
    exact hx d (Option.some.inj e1) (Option.some.inj (Option.some.inj e2))
  · rw [List.getElem?_set_ne hj] at e1 e2
    exact f j d e1 e2
theorem bindP_ok {K : PySem.W.Frag} {O : Addr → Prop} {H : Hp} : ∀ {ts : T} {vs : List V} {xs : List (Kd × D)} {env env' : Env} {σ : L2.St} {is : List Nat}, B.Rl K O env σ H → VRc K B O H vs xs → (owns vs xs).Nodup →
    (∀ a ∈ owns vs xs, ∀ (j : Nat) (d : D), env[j]? = some (Slot.d true d) → σ[j]? ≠ some (some (V.ref a))) → bindP ts xs env = some env' → namesT ts = some is → B.Rl K O env' (setAll σ is vs) H ∧ is.length = vs.length := by
  intro ts
  induction ts with
  | nil =>
    intro vs xs env env' σ is r v nd f b n
    cases xs with
    | nil =>
      cases n
      have e : env = env' := by simpa [bindP] using b
      subst e
      cases vs with
      | nil => exact ⟨r, rfl⟩
      | cons _ _ => exact v.elim
    | cons _ _ => simp [bindP] at b
  | cons t u iht ihu =>
    intro vs xs env env' σ is r v nd f b n
    cases xs with
    | nil => simp [bindP] at b
    | cons x xs =>
      cases vs with
      | nil => exact v.elim
      | cons v0 vs =>
        have b : ((bindT t x env).bind fun env1 => bindP u xs env1) = some env' := by simpa [bindP] using b
        obtain ⟨env1, b1, b2⟩ := Option.bind_eq_some_iff.mp b
        obtain ⟨i, is', hti, n', rfl⟩ : ∃ i is', t = .ov i ∧ namesT u = some is' ∧ is = i :: is' := by
          cases t <;> first
            | (simp [namesT] at n; done)
            | (simp only [namesT, Option.map_eq_some_iff] at n
               obtain ⟨a, h1, h2⟩ := n
               exact ⟨_, a, rfl, h1, h2.symm⟩)
        subst hti
        have done : ∀ (x1 : Slot), env1 = env.set i x1 → B.Rl K O (env.set i x1) (σ.set i (some v0)) H → VRc K B O H vs xs → (owns vs xs).Nodup → (∀ a ∈ owns vs xs, ∀ d : D, x1 = .d true d → v0 ≠ .ref a) →
            (∀ a ∈ owns vs xs, ∀ (j : Nat) (d : D), env[j]? = some (Slot.d true d) → σ[j]? ≠ some (some (V.ref a))) → B.Rl K O env' (setAll σ (i :: is') (v0 :: vs)) H ∧ (i :: is').length = (v0 :: vs).length := by
          intro x1 e1 r1 v1 nd1 hx f1
          subst e1
          obtain ⟨z1, z2⟩ := ihu r1 v1 nd1 (fun a ha => free_set (hx a ha) r.len (f1 a ha)) b2 n'
          exact ⟨z1, congrArg (· + 1) z2⟩
        obtain ⟨kd, d⟩ := x
        cases kd with
        | peek => simp [bindT] at b1
        | frz =>
          have ow : owns (v0 :: vs) ((Kd.frz, d) :: xs) = owns vs xs := by cases v0 <;> rfl
          rw [ow] at nd f
          have e1 : env1 = env.set i (.d false d) := by
            have b1 : putE env i (.d false d) = some env1 := by simpa [bindT] using b1
            exact (putE_some b1).2
          exact done _ e1 (r.setF v.1) v.2 nd (fun a ha d' z => by cases z) f
        | own =>
          obtain ⟨⟨a, us, ds, rfl, rfl, g1, g2, g3, g4, g5⟩, v2⟩ := v
          have ow : owns (.ref a :: vs) ((Kd.own, PyData.list ds) :: xs) = a :: owns vs xs := rfl
          rw [ow] at nd f
          obtain ⟨na, nd2⟩ := List.nodup_cons.mp nd
          have b1 : putE env i (.d true (.list ds)) = some env1 := by simpa [bindT] using b1
          exact done _ (putE_some b1).2 (Rl.setH r g1 g2 g3 g4 g5 (f a List.mem_cons_self)) v2 nd2 (fun b hb d' _ z => by cases z; exact na hb) fun b hb => f b (List.mem_cons_of_mem _ hb)
  | _ =>
    intro vs xs env env' σ is r v nd f b n
    simp [namesT] at n
theorem free_of {K : PySem.W.Frag} {O : Addr → Prop} {H : Hp} {env : Env} {σ : L2.St} (r : B.Rl K O env σ H) {a : Addr} (n : H a = none) : ∀ (j : Nat) (d : D), env[j]? = some (Slot.d true d) → σ[j]? ≠ some (some (V.ref a)) := fun j d e1 e2 => by
  obtain ⟨_, _, _, p, _⟩ := r.owned e1 e2
  rw [n] at p; cases p
/-- the reading of a store of several values -/
theorem par_core {es : T} {ts : T} {is : List Nat} {N : Ends} {σ : L2.St} {H : Hp} (hn : namesT ts = some is) (h : tS C X.K B W (.par ts es) N σ H) :
    tP C X.K B W es σ H fun vs H1 => vs.length = is.length ∧ (∀ p, H1 p = none → ∀ o, N.nx (setAll σ is vs) (upd H1 p (.tup o))) ∧ N.nx (setAll σ is vs) H1 := by
  obtain ⟨env, s, O, r, q, h⟩ := h
  unfold evS at h
  refine ⟨env, s, O, r, q, h.bind.mono (fun xs s1 h1 => ?_) fun _ _ _ z => wS.x r z⟩
  intro vs H1 O1 r1 q1 e1 m1 z1 v1 n1 f1
  obtain ⟨fl, e2, h2⟩ := h1.of
  obtain ⟨env', e3, e4⟩ := Option.map_eq_some_iff.mp e2
  subst e4
  obtain ⟨r2, l2⟩ := bindP_ok r1 v1 n1 (fun a ha => free_of r (f1 a ha)) e3 hn
  refine ⟨l2.symm, fun p hp o => h2 _ _ O1 (r2.ext (Ex.new hp) (q1.same (same_new hp))) (q1.same (same_new hp)) (m1.trans (r2.hid (Ex.new hp))), h2 _ _ O1 r2 q1 m1⟩
theorem js_par2 (sx : SX C k fns cns X W) {i j : Nat} {x y : Str} {a b : Expr} {px py pt pos : Pos} {kt k2 : Nat} {pt2 : Pos} {es : T} (hi : X.N[i]? = some x) (hj : X.N[j]? = some y) (hij : i ≠ j)
    (hx : X.env.scope.names.lookup x = some .local) (hy : X.env.scope.names.lookup y = some .local) (ha : PA X [a, b] (tP C X.K B W es))
    (hw : swappedStores [.Tuple [.Name x px, .Name y py] kt pt] (.Tuple [a, b] k2 pt2) X.env = pure (some [x, y])) :
    PS X (.Assign [.Tuple [.Name x px, .Name y py] kt pt] (.Tuple [a, b] k2 pt2) pos) (tS C X.K B W (.par (.cons (.ov i) (.cons (.ov j) .nil)) es)) := by
  refine (ps_par sx.hx.calm sx.hx.nd hi hj hij hx hy ha hw).weak fun N σ H h => ?_
  obtain ⟨env, s, O, r, q, h⟩ := par_core (is := [i, j]) rfl h
  refine ⟨env, s, O, r, q, h.mono (fun xs s1 h1 vs H1 O1 r1 q1 e1 m1 z1 v1 n1 f1 => ?_) fun _ _ _ z => z⟩
  obtain ⟨l, _, fin⟩ := h1 vs H1 O1 r1 q1 e1 m1 z1 v1 n1 f1
  match vs, l, fin with
  | [v, w], _, fin => exact ⟨v, w, rfl, fin⟩
theorem js_par3 (sx : SX C k fns cns X W) {i j l : Nat} {x y z : Str} {a b c : Expr} {px py pz pt pos : Pos} {kt k2 : Nat} {pt2 : Pos} {es : T} (hi : X.N[i]? = some x) (hj : X.N[j]? = some y) (hl : X.N[l]? = some z) (hij : i ≠ j) (hil : i ≠ l) (hjl : j ≠ l)
    (hx : X.env.scope.names.lookup x = some .local) (hy : X.env.scope.names.lookup y = some .local) (hz : X.env.scope.names.lookup z = some .local) (ha : PA X [a, b, c] (tP C X.K B W es))
    (hw : swappedStores [.Tuple [.Name x px, .Name y py, .Name z pz] kt pt] (.Tuple [a, b, c] k2 pt2) X.env = pure (some [x, y, z])) :
    PS X (.Assign [.Tuple [.Name x px, .Name y py, .Name z pz] kt pt] (.Tuple [a, b, c] k2 pt2) pos) (tS C X.K B W (.par (.cons (.ov i) (.cons (.ov j) (.cons (.ov l) .nil))) es)) := by
  refine (ps_par3 sx.hx.calm sx.hx.nd hi hj hl hij hil hjl hx hy hz ha hw).weak fun N σ H h => ?_
  obtain ⟨env, s, O, r, q, h⟩ := par_core (is := [i, j, l]) rfl h
  refine ⟨env, s, O, r, q, h.mono (fun xs s1 h1 vs H1 O1 r1 q1 e1 m1 z1 v1 n1 f1 => ?_) fun _ _ _ z => z⟩
  obtain ⟨l, _, fin⟩ := h1 vs H1 O1 r1 q1 e1 m1 z1 v1 n1 f1
  match vs, l, fin with
  | [v, w, u], _, fin => exact ⟨v, w, u, rfl, fin⟩
/-- names as a row of targets -/
def gAll (is : List Nat) : TGs := fun vs σ H Q => vs.length = is.length ∧ Q (setAll σ is vs) H
theorem pgs_names (sx : SX C k fns cns X W) : ∀ {es : List Expr} {is : List Nat}, (∀ (n : Nat) (e : Expr), es[n]? = some e → ∃ x p i, e = .Name x p ∧ is[n]? = some i ∧ X.N[i]? = some x ∧ Loc X.env.scope x) → es.length = is.length → PGs X es (gAll is)
  | [], [], _, _ => pgs_nil.weak fun vs σ H Q h => by
    obtain ⟨l, h⟩ := h
    cases vs with
    | nil => exact ⟨rfl, h⟩
    | cons _ _ => cases l
  | [], _ :: _, _, l => by cases l
  | _ :: _, [], _, l => by cases l
  | e :: es, i :: is, h, l => by
    obtain ⟨x, p, i', rfl, e2, e3, e4⟩ := h 0 e rfl
    cases e2
    refine (pgs_cons (pg_name sx.hx.nd e3 e4 (.inl (sx.fn x))) (pgs_names sx (fun n e he => h (n + 1) e he) (Nat.succ.inj l)) rfl).weak fun vs σ H Q h => ?_
    obtain ⟨l, h⟩ := h
    cases vs with
    | nil => cases l
    | cons v vs => exact ⟨v, vs, rfl, Nat.succ.inj l, h⟩
theorem js_parG (sx : SX C k fns cns X W) {es es2 : List Expr} {is : List Nat} {kt k2 : Nat} {pt pt2 pos : Pos} {ts t : T} (hn : namesT ts = some is) (hN : ∀ (n : Nat) (e : Expr), es[n]? = some e → ∃ x p i, e = .Name x p ∧ is[n]? = some i ∧ X.N[i]? = some x ∧ Loc X.env.scope x)
    (hl : es.length = is.length) (hsz : is.length ≤ 1000) (ha : PA X es2 (tP C X.K B W t)) (hw : swappedStores [.Tuple es kt pt] (.Tuple es2 k2 pt2) X.env = pure none) :
    PS X (.Assign [.Tuple es kt pt] (.Tuple es2 k2 pt2) pos) (tS C X.K B W (.par ts t)) := by
  have st : es.all (fun e => !isStar e) = true := List.all_eq_true.mpr fun e he => by
    obtain ⟨n, hn⟩ := List.mem_iff_getElem?.mp he
    obtain ⟨x, p, i, rfl, _⟩ := hN n e hn
    rfl
  refine (ps_asg (pe_tup ha) (pg_tup sx.hx.calm (pgs_names sx hN hl) (assign_len es) (assign_plain es st)) rfl hw rfl).weak fun N σ H h => ?_
  obtain ⟨env, s, O, r, q, h⟩ := par_core hn h
  refine ⟨env, s, O, r, q, h.mono (fun xs s1 h1 vs H1 O1 r1 q1 e1 m1 z1 v1 n1 f1 => ?_) fun _ _ _ z => z⟩
  obtain ⟨l, fin, _⟩ := h1 vs H1 O1 r1 q1 e1 m1 z1 v1 n1 f1
  refine ⟨by rw [l]; exact Nat.le_of_lt (small1000 hsz), fun p hp => ⟨p, vs, rfl, .inl (.inl upd_same), by rw [l, hl], l, fin p hp vs⟩⟩

/-! ### owned lists change -/
theorem sub_assign {o i : Expr} {pos : Pos} {env : PySem.Env} (h : isSlice i = false) : ∀ v, assign (.Subscript o i pos) env v = (do
      let ov ← holding [v] (eval o env)
      let iv ← holding [v, ov] (eval i env)
      standAt pos
      holding [v, ov, iv] (setItem ov iv v)
      release [v, ov, iv] []) := fun v => by
  cases i <;> first | rfl | cases h
theorem swaps_sub {e o i : Expr} {p pos : Pos} {env : PySem.Env} : swapsWithSole [.Subscript o i p] e pos.line env = pure false := by
  cases e <;> rfl
theorem js_setx {i : Nat} {x : Str} {ix e : Expr} {ti te : T} {px p pos : Pos} (hN : X.N[i]? = some x) (hv : Vis X.env.scope x) (hd : (x == ("__debug__" : Str)) = false) (hcd : (x == ("__classdict__" : Str)) = false)
    (he : JE C X B W e te) (hi : JE C X B W ix ti) (hs : isSlice ix = false) : PS X (.Assign [.Subscript (.Name x px) ix p] e pos) (tS C X.K B W (.setx i ti te)) := by
  refine (ps_asg he.e (pg_sub (pe_var hN hv hd hcd) hi.e set_list (sub_assign hs)) swaps_sub (by cases e <;> rfl) rfl).weak fun N σ H => ?_
  rintro ⟨env, s, O, r, q, h⟩
  unfold evS at h
  cases ho : ownL env i with
  | none => rw [ho] at h; exact h.elim
  | some ds =>
    rw [ho] at h
    have h : RQ ((evE C.Φ C.G te env s).bind _) _ _ := h
    refine eOne r q (h.bind.mono (fun y s1 h1 => ?_) fun _ _ _ z => wS.x r z)
    intro u H1 e1 q1 v1
    have r1 := r.ext e1 q1
    obtain ⟨a, vs, ea, _, _⟩ := r1.own ho
    refine ⟨_, ea, eOne r1 q1 (h1.bind.mono (fun z s2 h2 => ?_) fun _ _ _ z => wS.x r1 z)⟩
    intro w H2 e2 q2 v2
    have r2 := r1.ext e2 q2
    obtain ⟨a', vs', ea', ha, ra⟩ := r2.own ho
    rw [ea] at ea'; cases ea'
    have v1' := v1.ext r e1 q1 e2 q2
    by_cases hp : y.1 = .peek
    · rw [if_pos hp] at h2; exact h2.elim
    rw [if_neg hp] at h2
    have ru := v1'.frz r.dom hp
    obtain ⟨kz, dz⟩ := z
    cases dz with
    | int kk =>
      obtain rfl := v2.int
      have h2 : RQ (match ixN ds.length kk with
        | some j => R.ok (Fl.next (env.set i (.d true (.list (ds.set j y.2))))) s2
        | none => R.stuck) (SPost X.K B O H N) (wS C X.K B W) := h2
      cases hx : ixN ds.length kk with
      | none => rw [hx] at h2; exact h2.elim
      | some j =>
        rw [hx] at h2
        refine ⟨a, vs', kk, j, rfl, rfl, ha, by rw [ra.len]; exact hx, ?_⟩
        obtain ⟨r3, m3, n1⟩ := r2.write (ownL_some ho) ea (ra.set ru j)
        exact h2 _ _ O r3 (q2.poke n1) (((r.hid e1).trans (r1.hid e2)).trans m3)
    | _ => exact h2.elim
theorem iop_ok (o : Operator) : PIp X o (fun u w H Q => ∃ (O : Addr → Prop) (Ha : Hp) (k1 : Kd) (x y : D) (z : D), Rp X.K H u x ∧ VR X.K B.S O Ha H k1 w y ∧ opI o x y = some z ∧ ∀ v, Rp X.K (fun _ => none) v z → Q v H) := by
  intro pins s σ H u w vu vw Q I ru rw' h
  obtain ⟨O, Ha, k1, x, y, z, hx, hy, e, q⟩ := h
  unfold opI at e
  split at e
  · cases e
    cases hx; obtain rfl := hy.int
    exact iop_add pins s σ H _ _ vu vw Q I ru rw' ⟨_, _, rfl, rfl, q _ (Rp.int _)⟩
  · split at e <;> cases e
    cases hx with
    | str _ l1 l2 =>
      obtain ⟨rfl, m1, m2⟩ := hy.str
      refine iop_add_str pins s σ H _ _ vu vw Q I ru rw' ⟨_, _, rfl, rfl, by assumption, q _ (Rp.str _ ?_ (str_app_ok l2 m2))⟩
      rw [str_len_app]; assumption
  · cases e
    cases hx; obtain rfl := hy.int
    exact iop_sub pins s σ H _ _ vu vw Q I ru rw' ⟨_, _, rfl, rfl, q _ (Rp.int _)⟩
  · split at e <;> cases e
    cases hx; obtain rfl := hy.int
    exact iop_mul pins s σ H _ _ vu vw Q I ru rw' ⟨_, _, rfl, rfl, cmul_of (by assumption), q _ (Rp.int _)⟩
  · split at e <;> cases e
    cases hx; obtain rfl := hy.int
    exact iop_fdiv pins s σ H _ _ vu vw Q I ru rw' ⟨_, _, rfl, rfl, by assumption, q _ (Rp.int _)⟩
  · split at e <;> cases e
    cases hx; obtain rfl := hy.int
    exact iop_mod pins s σ H _ _ vu vw Q I ru rw' ⟨_, _, rfl, rfl, by assumption, q _ (Rp.int _)⟩
  · cases e
theorem none_mono {K : PySem.W.Frag} {H : Hp} {v : V} {d : D} (h : Rp K (fun _ => none) v d) : Rp K H v d := h.mono fun _ o z => nomatch (show (none : Option HO) = some o from z)
theorem js_aug (sx : SX C k fns cns X W) {i : Nat} {x : Str} {o : Operator} {e : Expr} {te : T} {px pos : Pos} (hN : X.N[i]? = some x) (hx : Loc X.env.scope x) (he : JE C X B W e te) : PS X (.AugAssign (.Name x px) o e pos) (tS C X.K B W (.aug i o te)) := by
  refine (ps_aug sx.hx.nd hN hx he.e (iop_ok (B := B) o) (.inl (sx.fn x))).weak fun N σ H => ?_
  rintro ⟨env, s, O, r, q, h⟩
  unfold evS at h
  split at h
  case h_2 => exact h.elim
  case h_1 d e0 =>
  have hi : i < σ.length := by
    rw [← r.len]
    exact (List.getElem?_eq_some_iff.mp e0).1
  have e2 : σ[i]? = some σ[i] := List.getElem?_eq_getElem hi
  obtain ⟨v, e3, p⟩ := r.slots i _ _ e0 e2
  rw [e3] at e2
  refine ⟨v, e2, eOne r q (h.bind.mono (fun y s1 h1 => ?_) fun _ _ _ z => wS.x r z)⟩
  intro u H1 e1 q1 v1
  cases hz : opI o d y.2 with
  | none => rw [hz] at h1; exact h1.elim
  | some z =>
    rw [hz] at h1
    have r1 := r.ext e1 q1
    exact ⟨O, H, y.1, d, y.2, z, (p.mono (r.hid e1)).mono same_hide, v1, hz, fun w rw => h1 _ H1 O (r1.setF (none_mono rw)) q1 (r.hid e1)⟩
theorem app_line {e : Expr} {cpos : Pos} (hs : isStar e = false) : ((backTo cpos (starEach [e] X.env)).all (fun x => !x.1) && (backToKw cpos (keywordEach [] X.env)).all (fun x => x.1.isSome)
      && decide ([e].length + ([] : List Keyword).length + (if ([] : List Keyword).isEmpty then 0 else 1) < 30)) = true := by
  rw [star_cons hs] <;> rfl
theorem js_app {i : Nat} {x : Str} {e : Expr} {te : T} {px apos cpos pos : Pos} (hN : X.N[i]? = some x) (hv : Vis X.env.scope x) (hd : (x == ("__debug__" : Str)) = false) (hcd : (x == ("__classdict__" : Str)) = false)
    (he : JE C X B W e te) (hs : isStar e = false) (hl : (apos.endLine == cpos.line) = true) : PS X (.Expr (.Call (.Attribute (.Name x px) "append" apos) [e] [] cpos) pos) (tS C X.K B W (.app i te)) := by
  refine (ps_expr (pe_bm PySem.F.plainAttrs_list PySem.F.slot_list_append PySem.F.type_list_append mt_append (pe_var hN hv hd hcd) (pa_cons he.e pa_nil (star_cons hs)) rfl (app_line hs) hl (star_cons hs) rfl) rfl).weak fun N σ H => ?_
  rintro ⟨env, s, O, r, q, h⟩
  unfold evS at h
  cases ho : ownL env i with
  | none => rw [ho] at h; exact h.elim
  | some ds =>
    rw [ho] at h
    have h : RQ ((evE C.Φ C.G te env s).bind _) _ _ := h
    obtain ⟨a, vs, ea, ha0, _⟩ := r.own ho
    refine ⟨_, ea, .inl ⟨rfl, _, .of ha0⟩, eOne r q (h.bind.mono (fun y s1 h1 => ?_) fun _ _ _ z => wS.x r z)⟩
    intro u H1 e1 q1 v1
    have r1 := r.ext e1 q1
    obtain ⟨a', vs', ea', ha, ra⟩ := r1.own ho
    rw [ea] at ea'; cases ea'
    by_cases hp : y.1 = .peek
    · rw [if_pos hp] at h1; exact h1.elim
    rw [if_neg hp] at h1
    by_cases hz : ds.length < sizeLine
    · rw [if_pos hz] at h1
      refine ⟨a, vs', u, rfl, rfl, ha, by rw [ra.len]; exact hz, ?_⟩
      obtain ⟨r3, m3, n1⟩ := r1.write (ownL_some ho) ea (ra.app (.one (v1.frz r.dom hp)))
      exact h1 _ _ O r3 (q1.poke n1) ((r.hid e1).trans m3)
    · rw [if_neg hz] at h1; exact h1.elim
theorem js_ext {i : Nat} {x : Str} {e : Expr} {te : T} {px apos cpos pos : Pos} (hN : X.N[i]? = some x) (hv : Vis X.env.scope x) (hd : (x == ("__debug__" : Str)) = false) (hcd : (x == ("__classdict__" : Str)) = false)
    (he : JE C X B W e te) (hs : isStar e = false) (hl : (apos.endLine == cpos.line) = true) : PS X (.Expr (.Call (.Attribute (.Name x px) "extend" apos) [e] [] cpos) pos) (tS C X.K B W (.ext i te)) := by
  refine (ps_expr (pe_bm PySem.F.plainAttrs_list PySem.F.slot_list_extend PySem.F.type_list_extend mt_extend (pe_var hN hv hd hcd) (pa_cons he.e pa_nil (star_cons hs)) rfl (app_line hs) hl (star_cons hs) rfl) rfl).weak fun N σ H => ?_
  rintro ⟨env, s, O, r, q, h⟩
  unfold evS at h
  cases ho : ownL env i with
  | none => rw [ho] at h; exact h.elim
  | some ds =>
    rw [ho] at h
    have h : RQ ((evE C.Φ C.G te env s).bind _) _ _ := h
    obtain ⟨a, vs, ea, ha0, _⟩ := r.own ho
    refine ⟨_, ea, .inl ⟨rfl, _, .of ha0⟩, eOne r q (h.bind.mono (fun y s1 h1 => ?_) fun _ _ _ z => wS.x r z)⟩
    intro u H1 e1 q1 v1
    have r1 := r.ext e1 q1
    obtain ⟨a', vs', ea', ha, ra⟩ := r1.own ho
    rw [ea] at ea'; cases ea'
    obtain ⟨ky, dy⟩ := y
    cases dy with
    | list es =>
      have h1 : RQ (if ds.length + es.length ≤ sizeLine then _ else _) _ _ := h1
      by_cases hz : ds.length + es.length ≤ sizeLine
      · rw [if_pos hz] at h1
        obtain ⟨b, ws, rfl, eb, rb⟩ := v1.list
        refine ⟨a, b, vs', ws, rfl, rfl, ha, eb, by rw [ra.len, rb.len]; exact hz, ?_⟩
        obtain ⟨r3, m3, n1⟩ := r1.write (ownL_some ho) ea (ra.app rb)
        exact h1 _ _ O r3 (q1.poke n1) ((r.hid e1).trans m3)
      · rw [if_neg hz] at h1; exact h1.elim
    | _ => exact h1.elim
theorem js_popS {i : Nat} {x : Str} {px apos cpos pos : Pos} (hN : X.N[i]? = some x) (hv : Vis X.env.scope x) (hd : (x == ("__debug__" : Str)) = false) (hcd : (x == ("__classdict__" : Str)) = false)
    (hl : (apos.endLine == cpos.line) = true) : PS X (.Expr (.Call (.Attribute (.Name x px) "pop" apos) [] [] cpos) pos) (tS C X.K B W (.popS i)) := by
  refine (ps_expr (pe_bm0 PySem.F.plainAttrs_list PySem.F.slot_list_pop PySem.F.type_list_pop mt_pop (pe_var hN hv hd hcd) rfl hl) rfl).weak fun N σ H => ?_
  rintro ⟨env, s, O, r, q, h⟩
  unfold evS at h
  cases ho : ownL env i with
  | none => rw [ho] at h; exact h.elim
  | some ds =>
    rw [ho] at h
    obtain ⟨a, vs, ea, ha, ra⟩ := r.own ho
    have h : RQ (if ds.length = 0 then _ else _) _ _ := h
    by_cases hz : ds.length = 0
    · rw [if_pos hz] at h; exact h.elim
    · rw [if_neg hz] at h
      have hv : 0 < vs.length := by rw [ra.len]; omega
      refine ⟨_, ea, .inl ⟨rfl, _, .of ha⟩, a, vs, vs[vs.length - 1], rfl, rfl, ha, List.getElem?_eq_getElem (by omega), ?_⟩
      obtain ⟨r3, m3, n1⟩ := r.write (ownL_some ho) ea ra.dropLast
      exact h _ _ O r3 (q.poke n1) m3
/-- x[k] by values, k not below 0 -/
theorem get_lst : PGet X (fun o i H Q => ∃ p xs k v, o = .ref p ∧ i = .int k ∧ H p = some (.lst xs) ∧ 0 ≤ k ∧ xs[k.toNat]? = some v ∧ Q v H) := by
  intro pins s σ H o i ov iv Q I ro ri h
  obtain ⟨p, xs, k, v, rfl, rfl, hp, h0, hv, q⟩ := h
  cases ro
  obtain ⟨t, rfl⟩ := ri
  obtain ⟨its, rv, pl, hz⟩ := I.list (SqL.of hp)
  obtain ⟨u, hu, ru⟩ := rv.get hv
  have hlt : k.toNat < xs.length := (List.getElem?_eq_some_iff.mp hv).1
  have hn := line63
  exact wpAny_getItem_list pl.isList h0 (by omega) (by simpa using hu) ⟨v, H, I, ru, q⟩
theorem aug_store {i : Expr} (h : isSlice i = false) : ∀ ov iv new, augStore i ov iv new = (do holding [new, ov, iv] (setItem ov iv new); release [new, ov, iv] []; pure .next) := fun ov iv new => by
  cases i <;> first | rfl | cases h
theorem js_augx {i : Nat} {x : Str} {o : Operator} {ix e : Expr} {ti te : T} {px p pos : Pos} (hN : X.N[i]? = some x) (hv : Vis X.env.scope x) (hd : (x == ("__debug__" : Str)) = false) (hcd : (x == ("__classdict__" : Str)) = false)
    (he : JE C X B W e te) (hi : JE C X B W ix ti) (hs : isSlice ix = false) : PS X (.AugAssign (.Subscript (.Name x px) ix p) o e pos) (tS C X.K B W (.augx i ti o te)) := by
  refine (ps_augS (pe_var hN hv hd hcd) hi.e get_lst he.e (iop_ok (B := B) o) set_list (aug_store hs)).weak fun N σ H => ?_
  rintro ⟨env, s, O, r, q, h⟩
  unfold evS at h
  cases ho : ownL env i with
  | none => rw [ho] at h; exact h.elim
  | some ds =>
    rw [ho] at h
    have h : RQ ((evE C.Φ C.G ti env s).bind _) _ _ := h
    obtain ⟨a, vs, ea, ha0, _⟩ := r.own ho
    refine ⟨_, ea, eOne r q (h.bind.mono (fun y s1 h1 => ?_) fun _ _ _ z => wS.x r z)⟩
    intro u H1 e1 q1 v1
    have r1 := r.ext e1 q1
    obtain ⟨a', vs', ea', ha, ra⟩ := r1.own ho
    rw [ea] at ea'; cases ea'
    obtain ⟨ky, dy⟩ := y
    cases dy with
    | int kk =>
      obtain rfl := v1.int
      have h1 : RQ (if kk < 0 then R.stuck else (match ds[kk.toNat]? with
        | some x => (evE C.Φ C.G te env s1).bind fun z s => (match opI o x z.2 with
          | some w => R.ok (Fl.next (env.set i (.d true (.list (ds.set kk.toNat w))))) s
          | none => R.stuck)
        | none => R.stuck)) (SPost X.K B O H N) (wS C X.K B W) := h1
      by_cases hk : kk < 0
      · rw [if_pos hk] at h1; exact h1.elim
      rw [if_neg hk] at h1
      cases hx : ds[kk.toNat]? with
      | none => rw [hx] at h1; exact h1.elim
      | some dx =>
        rw [hx] at h1
        have h1 : RQ ((evE C.Φ C.G te env s1).bind _) _ _ := h1
        obtain ⟨vx, evx, rvx⟩ := ra.get hx
        refine ⟨a, vs', kk, vx, rfl, rfl, ha, by omega, evx, eOne r1 q1 (h1.bind.mono (fun z s2 h2 => ?_) fun _ _ _ z => wS.x r1 z)⟩
        intro w H2 e2 q2 v2
        have r2 := r1.ext e2 q2
        obtain ⟨a2, vs2, ea2, ha2, ra2⟩ := r2.own ho
        rw [ea] at ea2; cases ea2
        cases hz : opI o dx z.2 with
        | none => rw [hz] at h2; exact h2.elim
        | some dw =>
          rw [hz] at h2
          have hlt : kk.toNat < ds.length := (List.getElem?_eq_some_iff.mp hx).1
          refine ⟨O, H1, z.1, dx, z.2, dw, (rvx.mono (r1.hid e2)).mono same_hide, v2, hz, fun vw rw => ⟨a, vs2, kk, kk.toNat, rfl, rfl, ha2, ?_, ?_⟩⟩
          · unfold ixN
            rw [if_pos (by omega), if_pos (by rw [ra2.len]; omega)]
          · obtain ⟨r3, m3, n1⟩ := r2.write (ownL_some ho) ea (ra2.set (none_mono rw) kk.toNat)
            exact h2 _ _ O r3 (q2.poke n1) (((r.hid e1).trans (r1.hid e2)).trans m3)
    | _ => exact h1.elim

/-! ### raise -/
theorem VRs.len {K : PySem.W.Frag} {S : SA} {O : Addr → Prop} {Ha H : Hp} : ∀ {vs : List V} {xs : List (Kd × D)}, VRs K S O Ha H vs xs → vs.length = xs.length
  | [], [], _ => rfl
  | v :: vs, x :: xs, h => by rw [List.length_cons, List.length_cons, VRs.len h.2]
theorem scal_ok {K : PySem.W.Frag} {S : SA} {O : Addr → Prop} {Ha H : Hp} : ∀ {xs : List (Kd × D)} {vs : List V} {ds : List D}, VRs K S O Ha H vs xs → scalOf (xs.map (·.2)) = some ds → RpA K (fun _ => none) vs ds
  | [], [], ds, _, e => by cases e; exact .nil
  | x :: xs, v :: vs, ds, h, e => by
    obtain ⟨kx, dx⟩ := x
    rw [List.map_cons] at e
    cases dx with
    | none =>
      obtain ⟨r, e1, e2⟩ := Option.map_eq_some_iff.mp e
      subst e2
      obtain rfl := h.1.none
      exact .cons Rp.non (scal_ok h.2 e1)
    | bool b =>
      obtain ⟨r, e1, e2⟩ := Option.map_eq_some_iff.mp e
      subst e2
      obtain rfl := h.1.bool
      exact .cons (Rp.bl b) (scal_ok h.2 e1)
    | int i =>
      obtain ⟨r, e1, e2⟩ := Option.map_eq_some_iff.mp e
      subst e2
      obtain rfl := h.1.int
      exact .cons (Rp.int i) (scal_ok h.2 e1)
    | str z =>
      obtain ⟨r, e1, e2⟩ := Option.map_eq_some_iff.mp e
      subst e2
      obtain ⟨rfl, l1, l2⟩ := h.1.str
      exact .cons (Rp.str z l1 l2) (scal_ok h.2 e1)
    | _ => cases e
theorem js_raise (sx : SX C k fns cns X W) {c ar : Nat} {x : Str} {e : Expr} {es : List Expr} {t : T} {p pos pos2 : Pos} (hc : C.xcs[c]? = some (x, ar)) (hg : Gl X x) (ha : PA X (e :: es) (tA C X.K B W t)) (hs : (e :: es).all (fun e => !isStar e) = true) (hl : (e :: es).length = ar) (hz : ar ≤ 1000) :
    PS X (.Raise (some (.Call (.Name x p) (e :: es) [] pos)) none pos2) (tS C X.K B W (.raise c ar t)) := by
  obtain ⟨Cc, fs, hX, hf, _, hmk⟩ := sx.xc c x ar hc
  have h1 : isStar e = false := by
    simp only [List.all_cons, Bool.and_eq_true, Bool.not_eq_true'] at hs
    exact hs.1
  have h2 : es.all (fun e => !isStar e) = true := by
    simp only [List.all_cons, Bool.and_eq_true] at hs
    exact hs.2
  refine (ps_raise sx.hx.calm sx.tk (hmk _ e es p pos hg ha hl (star_cons h1) (plain_of h2))).weak fun N σ H => ?_
  rintro ⟨env, s, O, r, q, h⟩
  unfold evS at h
  refine ⟨env, s, O, r, q, h.bind.mono (fun xs s1 h1 => ?_) fun _ _ _ z => wS.x r z⟩
  intro vs H1 e1 q1 v1
  by_cases hx : xs.length = ar
  case neg => rw [if_neg hx] at h1; exact h1.elim
  rw [if_pos hx] at h1
  cases hd : scalOf (xs.map (·.2)) with
  | none => rw [hd] at h1; exact h1.elim
  | some ds =>
    rw [hd] at h1
    have hv : vs.length = ar := by rw [v1.len, hx]
    refine ⟨hv, by omega, fun d hn => ?_⟩
    exact h1 σ (upd H1 d (.xd (fs.zip vs.reverse))) (.ref Cc) (some d) (r.same.trans (e1.trans (Ex.new hn))) (q1.same (same_new hn)) ⟨Cc, fs, hX, rfl, .inr ⟨d, vs.reverse, rfl, upd_same, by rw [hf, List.length_reverse, hv], (scal_ok v1 hd).rev⟩⟩
theorem js_raise0 (sx : SX C k fns cns X W) {c : Nat} {x : Str} {p pos pos2 : Pos} (hc : C.xcs[c]? = some (x, 0)) (hg : Gl X x) :
    PS X (.Raise (some (.Call (.Name x p) [] [] pos)) none pos2) (tS C X.K B W (.raise c 0 .nil)) := by
  obtain ⟨Cc, fs, hX, hf, hmk, _⟩ := sx.xc c x 0 hc
  refine (ps_raise sx.hx.calm sx.tk (hmk rfl p pos hg)).weak fun N σ H => ?_
  rintro ⟨env, s, O, r, q, h⟩
  unfold evS evA at h
  have h : RQ (R.exc c [] s) _ _ := h
  exact h σ H (.ref Cc) none r.same q ⟨Cc, fs, hX, rfl, .inl ⟨List.eq_nil_of_length_eq_zero hf, rfl⟩⟩
/-! ### the drawn source -/
def fldN : Nat → Str
  | 0 => "left"
  | 1 => "mixed"
  | _ => "turn"
def dkS (S : SA) (s : Src) : List (Key × V) := [(.inr "cells", .ref S.a2), (.inr "left", .int s.left), (.inr "mixed", .int s.mixed), (.inr "turn", .int s.turn)]
theorem val_cells {S : SA} {s : Src} : valV (dkS S s) (.inr "cells") = some (.ref S.a2) := by
  unfold dkS
  rw [valV_pos rfl]
theorem val_fld {S : SA} {s : Src} (k : Nat) : valV (dkS S s) (.inr (fldN k)) = some (.int (s.get k)) := by
  have d1 : ¬ (Sum.inr ("cells" : Str) : Key) = Sum.inr ("left" : Str) := by decide +kernel
  have d2 : ¬ (Sum.inr ("cells" : Str) : Key) = Sum.inr ("mixed" : Str) := by decide +kernel
  have d3 : ¬ (Sum.inr ("cells" : Str) : Key) = Sum.inr ("turn" : Str) := by decide +kernel
  have d4 : ¬ (Sum.inr ("left" : Str) : Key) = Sum.inr ("mixed" : Str) := by decide +kernel
  have d5 : ¬ (Sum.inr ("left" : Str) : Key) = Sum.inr ("turn" : Str) := by decide +kernel
  have d6 : ¬ (Sum.inr ("mixed" : Str) : Key) = Sum.inr ("turn" : Str) := by decide +kernel
  unfold dkS fldN
  match k with
  | 0 => exact (valV_neg d1).trans (valV_pos rfl)
  | 1 => exact (valV_neg d2).trans ((valV_neg d4).trans (valV_pos rfl))
  | _ + 2 => exact (valV_neg d3).trans ((valV_neg d5).trans ((valV_neg d6).trans (valV_pos rfl)))
theorem put_fld {S : SA} {s : Src} (k : Nat) (n : Int) : putK (dkS S s) (.inr (fldN k)) (.int n) = dkS S (s.put k n) := by
  have d1 : ¬ (Sum.inr ("cells" : Str) : Key) = Sum.inr ("left" : Str) := by decide +kernel
  have d2 : ¬ (Sum.inr ("cells" : Str) : Key) = Sum.inr ("mixed" : Str) := by decide +kernel
  have d3 : ¬ (Sum.inr ("cells" : Str) : Key) = Sum.inr ("turn" : Str) := by decide +kernel
  have d4 : ¬ (Sum.inr ("left" : Str) : Key) = Sum.inr ("mixed" : Str) := by decide +kernel
  have d5 : ¬ (Sum.inr ("left" : Str) : Key) = Sum.inr ("turn" : Str) := by decide +kernel
  have d6 : ¬ (Sum.inr ("mixed" : Str) : Key) = Sum.inr ("turn" : Str) := by decide +kernel
  have any : ((dkS S s).any fun kv => decide (kv.1 = (.inr (fldN k) : Key))) = true := by
    rw [valV_any, val_fld]; rfl
  unfold putK
  rw [if_pos any]
  unfold dkS fldN Src.put
  match k with
  | 0 => simp only [List.map_cons, List.map_nil, if_neg d1, if_neg (Ne.symm d4), if_neg (Ne.symm d5), if_pos]
  | 1 => simp only [List.map_cons, List.map_nil, if_neg d2, if_neg d4, if_neg (Ne.symm d6), if_pos]
  | _ + 2 => simp only [List.map_cons, List.map_nil, if_neg d3, if_neg d5, if_neg d6, if_pos]
theorem Rl.src {K : PySem.W.Frag} {O : Addr → Prop} {H : Hp} {env : Env} {σ : L2.St} (r : B.Rl K O env σ H) {i : Nat} (e : env[i]? = some .src) : σ[i]? = some (some (.ref B.S.a1)) := by
  have hi : i < σ.length := by
    rw [← r.len]
    exact (List.getElem?_eq_some_iff.mp e).1
  have e2 : σ[i]? = some σ[i] := List.getElem?_eq_getElem hi
  have so := r.slots i _ _ e e2
  rw [e2]; exact congrArg some so
theorem get_fld {S : SA} {H : Hp} {s : Src} (q : SrcR S H s) (m : Nat) : DGet H S.a1 (.str (fldN m)) (some (.int (s.get m))) := by
  have h := DGet.k (k := .inr (fldN m)) q.2.1
  have e := val_fld (S := S) (s := s) m
  unfold dkS at e
  rw [e] at h
  exact h
theorem get_cells {S : SA} {H : Hp} {s : Src} (q : SrcR S H s) : DGet H S.a1 (.str ("cells" : Str)) (some (.ref S.a2)) := by
  have h := DGet.k (k := .inr ("cells" : Str)) q.2.1
  have e := val_cells (S := S) (s := s)
  unfold dkS at e
  rw [e] at h
  exact h
theorem dput_fld {S : SA} {H : Hp} {s : Src} (q : SrcR S H s) (m : Nat) (n : Int) : DPut H S.a1 (.str (fldN m)) (.int n) (upd H S.a1 (.dK (dkS S (s.put m n)))) := by
  have h := DPut.k (k := .inr (fldN m)) (v := .int n) q.2.1 (by show 4 < sizeLine; decide)
  have e := put_fld (S := S) (s := s) m n
  unfold dkS at e
  rw [e] at h
  exact h
theorem je_srcG (hx : HX C k fns cns X) {i m : Nat} {x f : Str} {j : Nat} {p p2 pos : Pos} (hN : X.N[i]? = some x) (hv : Vis X.env.scope x) (hd : (x == ("__debug__" : Str)) = false) (hcd : (x == ("__classdict__" : Str)) = false) (hf : f = fldN m) :
    JE C X B W (.Subscript (.Name x p) (.Constant (.str f) j p2) pos) (.srcG m i) := by
  subst hf
  refine .of ((pe_dget (by have := hx.units; omega) (pe_var hN hv hd hcd) pe_str (fun _ _ => rfl)).weak fun σ H Q => ?_)
  rintro ⟨env, s, O, r, q, h⟩
  unfold evE at h
  cases e : env[i]? with
  | none => rw [e] at h; exact h.elim
  | some sl =>
    rw [e] at h
    cases sl with
    | e => exact h.elim
    | d o x => cases o <;> exact h.elim
    | src => exact ⟨_, r.src e, B.S.a1, _, rfl, get_fld q m, h _ _ (Ex.refl _ _) q (Rp.int _)⟩
theorem je_srcL (hx : HX C k fns cns X) {i : Nat} {x : Str} {j : Nat} {p p2 p3 pf pos : Pos} (hg : Gl X "len") (hN : X.N[i]? = some x) (hv : Vis X.env.scope x) (hd : (x == ("__debug__" : Str)) = false) (hcd : (x == ("__classdict__" : Str)) = false) :
    JE C X B W (.Call (.Name "len" pf) [.Subscript (.Name x p) (.Constant (.str "cells") j p2) p3] [] pos) (.srcL i) := by
  refine .of ((pe_callB call_len_seq hg (hx.blt _ (by decide)) boot_len (pa_cons (pe_dget (by have := hx.units; omega) (pe_var hN hv hd hcd) pe_str (fun _ _ => rfl)) pa_nil)).weak fun σ H Q => ?_)
  rintro ⟨env, s, O, r, q, h⟩
  unfold evE at h
  cases e : env[i]? with
  | none => rw [e] at h; exact h.elim
  | some sl =>
    rw [e] at h
    cases sl with
    | e => exact h.elim
    | d o x => cases o <;> exact h.elim
    | src =>
      refine ⟨_, r.src e, B.S.a1, V.ref B.S.a2, rfl, get_cells q, B.S.a2, s.cells.map V.int, rfl, .inl (.of q.2.2.1), ?_⟩
      rw [List.length_map]
      exact h _ _ (Ex.refl _ _) q (Rp.int _)
theorem SrcR.put {S : SA} {H : Hp} {s : Src} (q : SrcR S H s) (m : Nat) (n : Int) : SrcR S (upd H S.a1 (.dK (dkS S (s.put m n)))) (s.put m n) := by
  refine ⟨q.1, upd_same, ?_, tabs_upd q.2.1 (fun _ z => nomatch z) (fun _ z => nomatch z) q.2.2.2⟩
  rw [upd_ne q.1.symm]
  have : (s.put m n).cells = s.cells := by unfold Src.put; split <;> rfl
  rw [this]; exact q.2.2.1
theorem Ex.upd1 {S : SA} {H : Hp} {o : HO} : Ex S H (upd H S.a1 o) := fun b x e h1 => by rw [upd_ne (fun z => h1 (.inl z))]; exact e
theorem Ex.upd2 {S : SA} {H : Hp} {o : HO} : Ex S H (upd H S.a2 o) := fun b x e h1 => by rw [upd_ne (fun z => h1 (.inr (.inl z)))]; exact e
theorem js_srcS (hx : HX C k fns cns X) {i m : Nat} {x f : Str} {e : Expr} {te : T} {j : Nat} {p p2 p3 pos : Pos} (hN : X.N[i]? = some x) (hv : Vis X.env.scope x) (hd : (x == ("__debug__" : Str)) = false) (hcd : (x == ("__classdict__" : Str)) = false) (hf : f = fldN m)
    (he : JE C X B W e te) : PS X (.Assign [.Subscript (.Name x p) (.Constant (.str f) j p2) p3] e pos) (tS C X.K B W (.srcS m i te)) := by
  subst hf
  have hs : swapsWith e (some (.Subscript (.Name x p) (.Constant (.str (fldN m)) j p2) p3)) pos.line X.env = pure false := by
    cases e <;> rfl
  refine (ps_dput (by have := hx.units; omega) (pe_var hN hv hd hcd) pe_str he.e hs).weak fun N σ H => ?_
  rintro ⟨env, s, O, r, q, h⟩
  unfold evS at h
  refine eOne r q (h.bind.mono (fun y s1 h1 => ?_) fun _ _ _ z => wS.x r z)
  intro u H1 e1 q1 v1
  have r1 := r.ext e1 q1
  obtain ⟨ky, dy⟩ := y
  cases e2 : env[i]? with
  | none => rw [e2] at h1; exact h1.elim
  | some sl =>
    rw [e2] at h1
    cases sl with
    | e => exact h1.elim
    | d o x => exact h1.elim
    | src =>
      cases dy with
      | int n =>
        obtain rfl := v1.int
        have q2 := q1.put m n
        refine ⟨_, r1.src e2, B.S.a1, _, rfl, dput_fld q1 m n, ?_⟩
        exact h1 _ _ O (r1.ext Ex.upd1 q2) q2 ((r.hid e1).trans (r1.hid Ex.upd1))
      | _ => exact h1.elim
theorem js_srcP (hx : HX C k fns cns X) {i : Nat} {x : Str} {j j2 : Nat} {p p2 p3 p4 p5 p6 p7 p8 pos : Pos} (hN : X.N[i]? = some x) (hv : Vis X.env.scope x) (hd : (x == ("__debug__" : Str)) = false) (hcd : (x == ("__classdict__" : Str)) = false)
    (hl : (p7.endLine == p8.line) = true) :
    PS X (.Assign [.Subscript (.Name x p) (.Constant (.str "left") j p2) p3] (.Call (.Attribute (.Subscript (.Name x p4) (.Constant (.str "cells") j2 p5) p6) "pop" p7) [] [] p8) pos) (tS C X.K B W (.srcP i)) := by
  have hu : X.A.units + 1 < cLine := by have := hx.units; omega
  refine (ps_dput hu (pe_var hN hv hd hcd) pe_str (pe_bm0 PySem.F.plainAttrs_list PySem.F.slot_list_pop PySem.F.type_list_pop mt_pop (pe_dget hu (pe_var hN hv hd hcd) pe_str (fun _ _ => rfl)) rfl hl) rfl).weak fun N σ H => ?_
  rintro ⟨env, s, O, r, q, h⟩
  unfold evS at h
  cases e2 : env[i]? with
  | none => rw [e2] at h; exact h.elim
  | some sl =>
    rw [e2] at h
    cases sl with
    | e => exact h.elim
    | d o x => exact h.elim
    | src =>
      cases e3 : s.cells.getLast? with
      | none => rw [e3] at h; exact h.elim
      | some n =>
        rw [e3] at h
        have q2 : SrcR B.S (upd H B.S.a2 (.lst (s.cells.map V.int).dropLast)) { s with cells := s.cells.dropLast } :=
          ⟨q.1, by rw [upd_ne q.1]; exact q.2.1, by rw [upd_same, List.map_dropLast], tabs_upd q.2.2.1 (fun _ z => nomatch z) (fun _ z => nomatch z) q.2.2.2⟩
        have q3 := q2.put 0 n
        refine ⟨_, r.src e2, B.S.a1, V.ref B.S.a2, rfl, get_cells q, .inl ⟨rfl, _, .of q.2.2.1⟩, B.S.a2, s.cells.map V.int, .int n, rfl, rfl, q.2.2.1, ?_, ?_⟩
        · rw [List.length_map, List.getElem?_map, ← List.getLast?_eq_getElem?, e3]; rfl
        · have r2 := r.ext Ex.upd2 q2
          refine ⟨_, r2.src e2, B.S.a1, _, rfl, dput_fld q2 0 n, ?_⟩
          exact h _ _ O (r2.ext Ex.upd1 q3) q3 ((r.hid Ex.upd2).trans (r2.hid Ex.upd1))
end
end Tre
/-! TreH: told: a def that catches what its thunk raises. -/
namespace Tre
open PySem PySem.Spec PyProof.Rows L2 LamX
def noPar (a : Arguments) : Bool := a.posonlyargs.isEmpty && a.args.isEmpty && a.vararg.isNone && a.kwonlyargs.isEmpty && a.kw_defaults.isEmpty && a.kwarg.isNone && a.defaults.isEmpty
/-- what is told of such a def -/
def TdOk (C : Cf) (X : Cx) (k : Nat) (x : Str) (c : Nat) (o : Option Str) (badS : Str) : Prop := match o with
  | some okS => ∃ (P CS : Addr) (fld : Str), (∃ q, (P, q) ∈ C.ts) ∧ C.Xn c = some (CS, [fld]) ∧ PySem.W.exmOne X.K (.ref CS) (.ref CS) = some true ∧
  ∀ (params : Arguments) (body : Expr) (scope : Scope) (lpos p pos : Pos) (t : XK → TE), Gl X x → LamS X.env.scope scope → noPar params = true →
    (∀ (A : Around) (outer : List PySem.Env) (s : Shared) (H : Hp) (E : XK) (f c' : Addr), A.guards = some [] → Room k (A.deeper (lamEnv X scope s.heap.objs.size f c')) → PE (lamCx X A outer s H E scope f c') body (t E)) →
    PE X (.Call (.Name x p) [.Lambda params body scope lpos] [] pos) (tLamG P C.ts (TTas X.K CS okS badS fld) t)
  | none => ∃ (P CS : Addr), (∃ q, (P, q) ∈ C.ts) ∧ C.Xn c = some (CS, []) ∧ PySem.W.exmOne X.K (.ref CS) (.ref CS) = some true ∧
  ∀ (params : Arguments) (body : Expr) (scope : Scope) (lpos p pos : Pos) (t : XK → TE), Gl X x → LamS X.env.scope scope → noPar params = true →
    (∀ (A : Around) (outer : List PySem.Env) (s : Shared) (H : Hp) (E : XK) (f c' : Addr), A.guards = some [] → Room k (A.deeper (lamEnv X scope s.heap.objs.size f c')) → PE (lamCx X A outer s H E scope f c') body (t E)) →
    PE X (.Call (.Name x p) [.Lambda params body scope lpos] [] pos) (tLamG P C.ts (TTold X.K CS badS) t)
section
variable {C : Cf} {k : Nat} {fns cns : List Str} {X : Cx} {B : Bx} {W : WX}
theorem je_told (hB : B.S.ts = C.ts) {x okS badS : Str} {c f : Nat} {t : T} {params : Arguments} {body : Expr} {scope : Scope} {lpos p pos : Pos} (td : TdOk C X k x c (some okS) badS) (hg : Gl X x) (L : LamS X.env.scope scope) (hp : noPar params = true) (l1 : okS.length ≤ sizeLine) (l2 : PyData.strOk okS = true) (l3 : badS.length ≤ sizeLine) (l4 : PyData.strOk badS = true)
    (hbody : ∀ (A : Around) (outer : List PySem.Env) (s : Shared) (H : Hp) (E : XK) (f' c' : Addr), A.guards = some [] → Room k (A.deeper (lamEnv X scope s.heap.objs.size f' c')) → PE (lamCx X A outer s H E scope f' c') body (tE C X.K B (fun cls d _ H => E cls d H) (.call f t))) :
    JE C X B W (.Call (.Name x p) [.Lambda params body scope lpos] [] pos) (.told f c okS badS t) := by
  obtain ⟨P, CS, fld, ⟨qP, hP⟩, hXn, hex, rule⟩ := td
  refine .of ((rule params body scope lpos p pos (fun E => tE C X.K B (fun cls d _ H => E cls d H) (.call f t)) hg L hp hbody).weak fun σ H Q => ?_)
  rintro ⟨env, s, O, r, q, h⟩
  unfold evE at h
  have hT : Tabs C.ts H := hB ▸ q.2.2.2
  refine ⟨hT, fun H1 hk T1 => ?_⟩
  obtain ⟨ps, hPt, _⟩ := hT _ hP
  have hPt : H P = some (.tbl ps) := hPt
  have e1 : Ex B.S H H1 := fun b o e n => hk b o e fun z => n (.inr (.inr ⟨qP, by rw [hB, z]; exact hP⟩))
  have q1 : SrcR B.S H1 s := ⟨q.1, hk _ _ q.2.1 (fun z => by have := q.2.1; rw [z, hPt] at this; cases this), hk _ _ q.2.2.1 (fun z => by have := q.2.2.1; rw [z, hPt] at this; cases this), by rw [hB]; exact T1⟩
  have r1 := r.ext e1 q1
  refine ⟨env, s, O, r1, q1, ?_⟩
  unfold evE
  refine RQ.unbind ((h.bind.calm (W' := wX C X.K B (fun cls d _ H => _) σ H1)).mono (fun xs s1 h1 => ?_) fun _ _ _ z => z)
  cases hΦ : C.Φ f xs s1 with
  | stuck => rw [hΦ] at h1; exact h1.elim
  | ok y s2 =>
    rw [hΦ] at h1
    intro v H2 e2 q2 v2
    refine ⟨by show 2 ≤ sizeLine; decide, fun p hp => ?_⟩
    have r2 := r1.ext e2 q2
    have hpk : (if y.1 = true then Kd.own else Kd.frz) ≠ .peek := by split <;> exact fun z => nomatch z
    exact h1 (.ref p) _ (e1.trans (e2.trans (Ex.new hp))) (q2.same (same_new hp)) (new_tup (S := B.S) r2.dom hp (.cons (Rp.str _ l1 l2) (.cons (v2.frz r1.dom hpk) .nil)))
  | exc c' a s2 =>
    rw [hΦ] at h1
    match a, h1 with
    | [a1], h1 =>
      by_cases hc : c' = c
      · have h5 : RQ (if c' = c then R.ok (Kd.frz, PyData.tuple [PyData.str badS, a1]) s2 else R.stuck) (fun x s' => ∀ v H', Ex B.S H H' → SrcR B.S H' s' → VR X.K B.S O H H' x.1 v x.2 → Q v H') (wX C X.K B W σ H) := h1
        rw [if_pos hc] at h5
        subst hc
        intro H2 cls d e2 q2 xr
        obtain ⟨Cc, fs, x1, rfl, x2⟩ := xr
        rw [hXn] at x1
        cases x1
        rcases x2 with ⟨z, _⟩ | ⟨dd, vs, rfl, hdd, hl, hr⟩
        · cases z
        · match vs, hr with
          | [v], .cons hv .nil =>
            refine ⟨true, hex, fun _ => ⟨rfl, dd, _, v, rfl, hdd, by simp, fun p hp => ?_⟩, fun z => by cases z⟩
            have r2 := r1.ext e2 q2
            exact h5 (.ref p) _ (e1.trans (e2.trans (Ex.new hp))) (q2.same (same_new hp)) (new_tup (S := B.S) r2.dom hp (.cons (Rp.str _ l3 l4) (.cons (none_mono hv) .nil)))
      · have h1 : RQ (if c' = c then _ else _) _ _ := h1
        rw [if_neg hc] at h1
        exact h1.elim
    | [], h1 => exact h1.elim
    | _ :: _ :: _, h1 => exact h1.elim
theorem je_tried (hB : B.S.ts = C.ts) {x txt : Str} {c f : Nat} {t : T} {params : Arguments} {body : Expr} {scope : Scope} {lpos p pos : Pos} (td : TdOk C X k x c none txt) (hg : Gl X x) (L : LamS X.env.scope scope) (hp : noPar params = true) (l1 : txt.length ≤ sizeLine) (l2 : PyData.strOk txt = true)
    (hbody : ∀ (A : Around) (outer : List PySem.Env) (s : Shared) (H : Hp) (E : XK) (f' c' : Addr), A.guards = some [] → Room k (A.deeper (lamEnv X scope s.heap.objs.size f' c')) → PE (lamCx X A outer s H E scope f' c') body (tE C X.K B (fun cls d _ H => E cls d H) (.call f t))) :
    JE C X B W (.Call (.Name x p) [.Lambda params body scope lpos] [] pos) (.tried f c txt t) := by
  obtain ⟨P, CS, ⟨qP, hP⟩, hXn, hex, rule⟩ := td
  refine .of ((rule params body scope lpos p pos (fun E => tE C X.K B (fun cls d _ H => E cls d H) (.call f t)) hg L hp hbody).weak fun σ H Q => ?_)
  rintro ⟨env, s, O, r, q, h⟩
  unfold evE at h
  have hT : Tabs C.ts H := hB ▸ q.2.2.2
  refine ⟨hT, fun H1 hk T1 => ?_⟩
  obtain ⟨ps, hPt, _⟩ := hT _ hP
  have hPt : H P = some (.tbl ps) := hPt
  have e1 : Ex B.S H H1 := fun b o e n => hk b o e fun z => n (.inr (.inr ⟨qP, by rw [hB, z]; exact hP⟩))
  have q1 : SrcR B.S H1 s := ⟨q.1, hk _ _ q.2.1 (fun z => by have := q.2.1; rw [z, hPt] at this; cases this), hk _ _ q.2.2.1 (fun z => by have := q.2.2.1; rw [z, hPt] at this; cases this), by rw [hB]; exact T1⟩
  have r1 := r.ext e1 q1
  refine ⟨env, s, O, r1, q1, ?_⟩
  unfold evE
  refine RQ.unbind ((h.bind.calm (W' := wX C X.K B (fun cls d _ H => _) σ H1)).mono (fun xs s1 h1 => ?_) fun _ _ _ z => z)
  cases hΦ : C.Φ f xs s1 with
  | stuck => rw [hΦ] at h1; exact h1.elim
  | ok y s2 =>
    rw [hΦ] at h1
    intro v H2 e2 q2 v2
    have hpk : (if y.1 = true then Kd.own else Kd.frz) ≠ .peek := by split <;> exact fun z => nomatch z
    exact h1 v H2 (e1.trans e2) q2 (v2.frz r1.dom hpk)
  | exc c' a s2 =>
    rw [hΦ] at h1
    match a, h1 with
    | [], h1 =>
      by_cases hc : c' = c
      · have h5 : RQ (if c' = c then R.ok (Kd.frz, PyData.str txt) s2 else R.stuck) (fun x s' => ∀ v H', Ex B.S H H' → SrcR B.S H' s' → VR X.K B.S O H H' x.1 v x.2 → Q v H') (wX C X.K B W σ H) := h1
        rw [if_pos hc] at h5
        subst hc
        intro H2 cls d e2 q2 xr
        obtain ⟨Cc, fs, x1, rfl, x2⟩ := xr
        rw [hXn] at x1
        cases x1
        exact ⟨true, hex, fun _ => h5 _ _ (e1.trans e2) q2 (Rp.str _ l1 l2), fun z => by cases z⟩
      · have h1 : RQ (if c' = c then _ else _) _ _ := h1
        rw [if_neg hc] at h1
        exact h1.elim
    | _ :: _, h1 => exact h1.elim
end
end Tre
/-! Tre11: a tree fits a text: the check, and what it gives. -/
namespace Tre
open PySem PySem.Spec PyProof.Rows L2

/-! ### parts of the check -/
def bV (N : List Str) (sc : Scope) (i : Nat) (x : Str) : Bool :=
  decide (N[i]? = some x) && (decide (sc.names.lookup x = some .local) || decide (sc.names.lookup x = some .cell) || decide (sc.names.lookup x = some .free)) && (x == ("__debug__" : Str)) == false && (x == ("__classdict__" : Str)) == false
def bL (N : List Str) (sc : Scope) (fnn : Bool) (i : Nat) (x : Str) : Bool :=
  decide (N[i]? = some x) && (decide (sc.names.lookup x = some .local) || (fnn && decide (sc.names.lookup x = some .cell)))
def bG (sc : Scope) (x : Str) : Bool := decide (sc.names.lookup x = some .globalImplicit) && (x == ("__debug__" : Str)) == false
def notSet : Expr → Bool
  | .Set .. => false
  | _ => true
def isComp : Expr → Bool
  | .ListComp .. => true
  | .SetComp .. => true
  | .DictComp .. => true
  | _ => false
def isBo : Expr → Bool
  | .BoolOp _ (_ :: _ :: _) _ => true
  | _ => false
def isTup : Expr → Bool
  | .Tuple .. => true
  | .List .. => true
  | _ => false
def typN (t : String) : Bool := decide (t = "int") || decide (t = "bool") || decide (t = "str") || decide (t = "tuple") || decide (t = "list") || decide (t = "dict")
def ownsOf (N : List Str) (ws : List Nat) : List (Str × Nat) := ws.map fun i => ((N[i]?).getD default, i)
def bBlk (N : List Str) (sc scope : Scope) (ws : List Nat) : Bool :=
  decide (scope.kind = .function) && scope.names.all (fun y => decide (scope.names.lookup y.1 = some y.2)) && (ownsOf N ws).all (fun p => decide (N[p.2]? = some p.1))
  && scope.names.all (fun y => decide (y.2 ≠ .free) || decide (sc.names.lookup y.1 = some .cell) || decide (sc.names.lookup y.1 = some .free))
  && scope.names.all (fun y => !(decide (y.2 = .local) || decide (y.2 = .cell)) || (ownsOf N ws).any (fun p => decide (p.1 = y.1)) || N.all fun n => !decide (n = y.1))
def swB (sc scope : Scope) (y : Str) (py pos : Pos) : Bool :=
  decide (sc.names.lookup y = some .local) && (py.line == pos.line) && (scope.names.any fun (n, k) => n == y && (k == .local || k == .cell)) == false
/-- the stores changed in order: what the model answers -/
def swS (sc : Scope) (ts vs : List Expr) : Option (Option (List Str)) :=
  if !(ts.length == 2 || ts.length == 3) || vs.length != ts.length then some none
  else if vs.any (fun | .Starred .. => true | _ => false) then some none
  else
    let line := (ts.head?.map (·.pos.line)).getD 0
    let names := ts.filterMap fun
      | .Name id pos => if sc.names.lookup id == some .local && pos.line == line then some id else none
      | _ => none
    if names.length != ts.length || names.eraseDups.length != names.length then some none
    else if vs.all (foldedForSure 8) then some none
    else if vs.all (constantsAlone 8) then none
    else some (some names)
theorem swS_ok {sc : Scope} {env : PySem.Env} (hsc : env.scope = sc) (hk : sc.kind = .function) {ts vs : List Expr} {k k2 : Nat} {p p2 : Pos} {r : Option (List Str)} (h : swS sc ts vs = some r) :
    swappedStores [.Tuple ts k p] (.Tuple vs k2 p2) env = pure r := by
  subst hsc
  have hb : env.blockKind = .function := by unfold Env.blockKind; rw [hk]; rfl
  have hb2 : (env.blockKind != .function) = false := by rw [hb]; rfl
  unfold swS at h
  unfold swappedStores
  simp only [Env.kindOf, hb2, Bool.or_false]
  split at h
  · rename_i c; cases h; exact if_pos c
  rename_i c1; refine (if_neg c1).trans ?_
  split at h
  · rename_i c; cases h; exact if_pos c
  rename_i c2; refine (if_neg c2).trans ?_
  simp only at h
  split at h
  · rename_i c; cases h; exact if_pos c
  rename_i c3; refine (if_neg c3).trans ?_
  split at h
  · rename_i c; cases h; exact if_pos c
  rename_i c4; refine (if_neg c4).trans ?_
  split at h
  · cases h
  rename_i c5; refine (if_neg c5).trans ?_
  cases h
  rfl

def isCall : Expr → Bool
  | .Call .. => true
  | _ => false
theorem base_plain {o : Expr} {name : Str} {env : PySem.Env} {whole : Sem Value} (h : isCall o = false) : attributeBase o name env whole = whole := by
  cases o <;> first | rfl | cases h
def isTpl : Expr → Bool
  | .Tuple .. => true
  | _ => false
/-- what enumerate and zip ask of the target -/
def bTg : T → Expr → Bool
  | .enu _, x => isTpl x
  | .zip .., x => isTpl x
  | _, _ => true
def isYes : T → Bool
  | .c (.bool true) => true
  | _ => false
section
variable (N fns cns : List Str) (tds : List (Str × Nat × Option Str × Str)) (xcs : List (Str × Nat))
mutual
def chkE (sc : Scope) (fnn : Bool) : T → Expr → Bool
  | .c (.int i), .Constant (.int j) _ _ => decide (i = j)
  | .c (.bool i), .Constant (.bool j) _ _ => decide (i = j)
  | .c .none, .Constant .none _ _ => true
  | .c (.str x), .Constant (.str y) _ _ => decide (x = y) && decide (x.length ≤ sizeLine) && PyData.strOk x
  | .v i, .Name x _ => bV N sc i x
  | .g i, .Name x _ => decide (cns[i]? = some x) && bG sc x
  | .op o a b, .BinOp x o' y _ => decide (o = o') && chkE sc fnn a x && chkE sc fnn b y
  | .cmp o a b, .Compare x [o'] [y] _ => decide (o = o') && chkE sc fnn a x && chkE sc fnn b y && behindInMarks o' y == false
  | .cmp2 o p a b c, .Compare x [o', p'] [y, z] _ => decide (o = o') && decide (p = p') && chkE sc fnn a x && chkE sc fnn b y && chkE sc fnn c z && lastMarks [o', p'] [y, z] == false
  | .and a b, .BoolOp .And (x :: y :: r) pos => chkE sc fnn a x && (match r with
    | [] => chkE sc fnn b y
    | z :: r => chkE sc fnn b (.BoolOp .And (y :: z :: r) pos))
  | .or a b, .BoolOp .Or (x :: y :: r) pos => chkE sc fnn a x && (match r with
    | [] => chkE sc fnn b y
    | z :: r => chkE sc fnn b (.BoolOp .Or (y :: z :: r) pos))
  | .not a, .UnaryOp .Not x _ => chkE sc fnn a x
  | .neg a, .UnaryOp .USub x _ => chkE sc fnn a x
  | .ife c a b, .IfExp x y z _ => chkE sc fnn c x && chkE sc fnn a y && chkE sc fnn b z
  | .tup es, .Tuple xs _ _ => chkA sc fnn es xs
  | .lst es, .List xs _ => chkA sc fnn es xs
  | .sub a i, .Subscript x y _ => chkE sc fnn a x && chkE sc fnn i y && isSlice y == false
  | .sl a lo hi, .Subscript x (.Slice l h none _) _ => chkE sc fnn a x && chkO sc fnn lo l && chkO sc fnn hi h
  | .rev a, .Subscript x (.Slice none none (some (.UnaryOp .USub (.Constant (.int i) _ _) _)) _) _ => decide (i = 1) && chkE sc fnn a x
  | .call f es, .Call (.Name x _) xs [] _ => decide (fns[f]? = some x) && bG sc x && chkG sc fnn es xs && xs.all (fun e => !isStar e)
  | .bi b es, .Call (.Name x _) (y :: xs) [] _ => decide (x = biN b) && bG sc x && chkA sc fnn es (y :: xs) && (y :: xs).all (fun e => !isStar e)
  | .isi t a, .Call (.Name x _) [y, .Name z _] [] _ => decide (x = "isinstance") && bG sc x && typN t && decide (z = Str.ofString t) && bG sc z && chkE sc fnn a y && isStar y == false
  | .lc tg it cond elt ws, .ListComp y [⟨tx, ix, ifs, b⟩] scope _ => decide (b = 0) && chkI sc fnn it ix && bBlk N sc scope ws && (slotsT tg).all (fun j => decide (j ∈ ws)) && chkT (relS scope sc) false tg tx && (match ifs with
      | [] => isYes cond
      | [z] => chkE (relS scope sc) false cond z
      | _ => false) && chkE (relS scope sc) false elt y && notSet ix && bTg it tx
  | .me .join o (.cons a .nil), .Call (.Attribute x m p) [y] [] q => decide (m = "join") && chkE sc fnn o x && chkE sc fnn a y && isStar y == false && isCall x == false && (p.endLine == q.line)
  | .me .split o (.cons a .nil), .Call (.Attribute x m p) [y] [] q => decide (m = "split") && chkE sc fnn o x && chkE sc fnn a y && isStar y == false && isCall x == false && (p.endLine == q.line)
  | .told f c okS badS es, .Call (.Name x _) [.Lambda params (.Call (.Name g _) ys [] _) scope _] [] _ => fnn && decide ((x, c, some okS, badS) ∈ tds) && bG sc x && LamX.lamSB sc scope && noPar params && decide (okS.length ≤ sizeLine) && PyData.strOk okS && decide (badS.length ≤ sizeLine) && PyData.strOk badS
    && decide (fns[f]? = some g) && bG scope g && chkG scope false es ys && ys.all (fun e => !isStar e)
  | .tried f c txt es, .Call (.Name x _) [.Lambda params (.Call (.Name g _) ys [] _) scope _] [] _ => fnn && decide ((x, c, none, txt) ∈ tds) && bG sc x && LamX.lamSB sc scope && noPar params && decide (txt.length ≤ sizeLine) && PyData.strOk txt
    && decide (fns[f]? = some g) && bG scope g && chkG scope false es ys && ys.all (fun e => !isStar e)
  | .srcG k i, .Subscript (.Name x _) (.Constant (.str f) _ _) _ => bV N sc i x && decide (f = fldN k)
  | .srcL i, .Call (.Name l _) [.Subscript (.Name x _) (.Constant (.str f) _ _) _] [] _ => bV N sc i x && bG sc l && decide (l = "len") && decide (f = "cells")
  | _, _ => false
def chkA (sc : Scope) (fnn : Bool) : T → List Expr → Bool
  | .nil, [] => true
  | .cons a r, x :: xs => chkE sc fnn a x && chkA sc fnn r xs && isStar x == false
  | _, _ => false
def chkG (sc : Scope) (fnn : Bool) : T → List Expr → Bool
  | .nil, [] => true
  | .cons a r, x :: xs => chkE sc fnn a x && chkG sc fnn r xs && isStar x == false
  | .csrc i r, .Name x _ :: xs => bV N sc i x && chkG sc fnn r xs
  | _, _ => false
def chkO (sc : Scope) (fnn : Bool) : T → Option Expr → Bool
  | .nil, none => true
  | .cons a .nil, some x => chkE sc fnn a x
  | _, _ => false
def chkI (sc : Scope) (fnn : Bool) : T → Expr → Bool
  | .it a, x => chkE sc fnn a x
  | .rng (.cons a .nil), .Call (.Name f _) [x] [] _ => decide (f = "range") && bG sc f && chkE sc fnn a x && isStar x == false
  | .rng (.cons a (.cons b .nil)), .Call (.Name f _) [x, y] [] _ => decide (f = "range") && bG sc f && chkE sc fnn a x && isStar x == false && chkE sc fnn b y && isStar y == false
  | .enu a, .Call (.Name f _) [x] [] _ => decide (f = "enumerate") && bG sc f && chkE sc fnn a x && isStar x == false
  | .zip false a b, .Call (.Name f _) [x, y] [] _ => decide (f = "zip") && bG sc f && chkE sc fnn a x && isStar x == false && chkE sc fnn b y && isStar y == false
  | .rvd a, .Call (.Name f _) [x] [] _ => decide (f = "reversed") && bG sc f && chkE sc fnn a x && isStar x == false
  | .rvr (.cons a .nil), .Call (.Name f _) [.Call (.Name g _) [x] [] _] [] _ => decide (f = "reversed") && bG sc f && decide (g = "range") && bG sc g && chkE sc fnn a x && isStar x == false
  | _, _ => false
def chkT (sc : Scope) (fnn : Bool) : T → Expr → Bool
  | .v i, .Name x _ => bL N sc fnn i x
  | .ov i, .Name x _ => bL N sc fnn i x
  | .tup ts, .Tuple xs _ _ => chkTs sc fnn ts xs
  | _, _ => false
def chkTs (sc : Scope) (fnn : Bool) : T → List Expr → Bool
  | .nil, [] => true
  | .cons a r, x :: xs => chkT sc fnn a x && chkTs sc fnn r xs && isStar x == false
  | _, _ => false
end
/-- each name of a row, its slot -/
def bNames (sc : Scope) : List Expr → List Nat → Bool
  | [], [] => true
  | .Name x _ :: es, i :: is => bL N sc true i x && bNames sc es is
  | _, _ => false
def isV : T → Bool
  | .v _ => true
  | .ov _ => true
  | _ => false
def asgB (sc : Scope) (tg : T) (x y : Expr) : Bool := (match x, y with
    | .Name n pn, .ListComp _ [_] scope pc => !swB sc scope n pn pc || isV tg
    | .Name _ _, y => isComp y == false
    | .Tuple _ _ _, y => isTup y == false
    | _, _ => false)
def parB (sc : Scope) (tgs : T) (xs ys : List Expr) : Bool := (match swS sc xs ys, namesT tgs, xs with
    | some none, some is, _ => bNames N sc xs is && decide (xs.length = is.length) && decide (is.length ≤ 1000)
    | some (some [x, y]), some [i, j], [.Name x' _, .Name y' _] => decide (x = x') && decide (y = y') && decide (N[i]? = some x) && decide (N[j]? = some y) && decide (i ≠ j) && decide (sc.names.lookup x = some .local) && decide (sc.names.lookup y = some .local) && decide (ys.length = 2)
    | some (some [x, y, z]), some [i, j, l], [.Name x' _, .Name y' _, .Name z' _] => decide (x = x') && decide (y = y') && decide (z = z') && decide (N[i]? = some x) && decide (N[j]? = some y) && decide (N[l]? = some z) && decide (i ≠ j) && decide (i ≠ l) && decide (j ≠ l) && decide (sc.names.lookup x = some .local) && decide (sc.names.lookup y = some .local) && decide (sc.names.lookup z = some .local) && decide (ys.length = 3)
    | _, _, _ => false)
mutual
def chkSs (sc : Scope) : T → List Stmt → Bool
  | .nil, [] => true
  | .seq a r, x :: xs => chkS sc a x && chkSs sc r xs
  | .fz _ r, xs => chkSs sc r xs
  | .kl _ r, xs => chkSs sc r xs
  | _, _ => false
def chkS (sc : Scope) : T → Stmt → Bool
  | .pass, .Pass _ => true
  | .brk, .Break _ => true
  | .cnt, .Continue _ => true
  | .ex a, .Expr x _ => chkE N fns cns tds sc true a x && isComp x == false
  | .ret a, .Return (some x) _ => chkE N fns cns tds sc true a x
  | .retv i, .Return (some (.Name x _)) _ => bV N sc i x
  | .retn, .Return none _ => true
  | .ifs c a b, .If x y z _ => chkE N fns cns tds sc true c x && chkSs sc a y && chkSs sc b z
  | .wh _ c b, .While x y [] _ => chkE N fns cns tds sc true c x && chkSs sc b y
  | .for tg it b, .For x y z [] _ => chkT N fns cns tds sc true tg x && chkI N fns cns tds sc true it y && chkSs sc b z && notSet y && bTg it x
  | .asg tg e, .Assign [x] y _ => chkE N fns cns tds sc true e y && chkT N fns cns tds sc true tg x && asgB sc tg x y
  | .par tgs es, .Assign [.Tuple xs _ _] (.Tuple ys _ _) _ => chkA N fns cns tds sc true es ys && parB N sc tgs xs ys
  | .setx i ix e, .Assign [.Subscript (.Name x _) y _] z _ => bV N sc i x && chkE N fns cns tds sc true ix y && chkE N fns cns tds sc true e z && isSlice y == false
  | .aug i o e, .AugAssign (.Name x _) o' y _ => bL N sc true i x && decide (o = o') && chkE N fns cns tds sc true e y
  | .augx i ix o e, .AugAssign (.Subscript (.Name x _) y _) o' z _ => bV N sc i x && decide (o = o') && chkE N fns cns tds sc true ix y && chkE N fns cns tds sc true e z && isSlice y == false
  | .app i e, .Expr (.Call (.Attribute (.Name x _) m p) [y] [] q) _ => decide (m = "append") && bV N sc i x && chkE N fns cns tds sc true e y && isStar y == false && (p.endLine == q.line)
  | .ext i e, .Expr (.Call (.Attribute (.Name x _) m p) [y] [] q) _ => decide (m = "extend") && bV N sc i x && chkE N fns cns tds sc true e y && isStar y == false && (p.endLine == q.line)
  | .raise c ar t, .Raise (some (.Call (.Name x _) (y :: ys) [] _)) none _ => decide (xcs[c]? = some (x, ar)) && bG sc x && chkA N fns cns tds sc true t (y :: ys) && (y :: ys).all (fun e => !isStar e) && decide ((y :: ys).length = ar) && decide (ar ≤ 1000)
  | .raise c 0 .nil, .Raise (some (.Call (.Name x _) [] [] _)) none _ => decide (xcs[c]? = some (x, 0)) && bG sc x
  | .srcS k i e, .Assign [.Subscript (.Name x _) (.Constant (.str f) _ _) _] y _ => bV N sc i x && decide (f = fldN k) && chkE N fns cns tds sc true e y
  | .srcP i, .Assign [.Subscript (.Name x _) (.Constant (.str f) _ _) _] (.Call (.Attribute (.Subscript (.Name y _) (.Constant (.str g) _ _) _) m p) [] [] q) _ => bV N sc i x && decide (x = y) && decide (f = "left") && decide (g = "cells") && decide (m = "pop") && (p.endLine == q.line)
  | .popS i, .Expr (.Call (.Attribute (.Name x _) m p) [] [] q) _ => decide (m = "pop") && bV N sc i x && (p.endLine == q.line)
  | _, _ => false
end
end
end Tre
set_option maxHeartbeats 2000000
/-! Tre12: what the check gives. -/
namespace Tre
open PySem PySem.Spec PyProof.Rows L2

structure AX (C : Cf) (k : Nat) (fns cns N : List Str) (X : Cx) (sc : Scope) (fnn : Bool) (W : WX) (B : Bx) : Prop where
  hx : HX C k fns cns X
  N : X.N = N
  sc : X.env.scope = sc
  tk : Takes X W
  fn : fnn = true → ∀ x, X.fn x = true
  hB : B.S.ts = C.ts
  td : fnn = true → ∀ (x : Str) (c : Nat) (okS : Option Str) (badS : Str), (x, c, okS, badS) ∈ C.tds → TdOk C X k x c okS badS
theorem takes0 {X : Cx} : Takes X W0 := fun _ _ ⟨_, _, _, _, _, _, _, _, _, _, _, _, _, _, _, _, w⟩ => w.elim
/-- an expression, its place among and, or -/
structure JX (C : Cf) (X : Cx) (B : Bx) (W : WX) (x : Expr) (t : T) : Prop where
  j : JE C X B W x t
  w : isBo x = true → JW C X B W x t

section
variable {C : Cf} {k : Nat} {fns cns N : List Str}
theorem AX.v {X : Cx} {sc : Scope} {fnn : Bool} {W : WX} {B : Bx} (a : AX C k fns cns N X sc fnn W B) {i : Nat} {x : Str} (h : bV N sc i x = true) :
    X.N[i]? = some x ∧ Vis X.env.scope x ∧ (x == ("__debug__" : Str)) = false ∧ (x == ("__classdict__" : Str)) = false := by
  unfold bV at h
  simp only [Bool.and_eq_true, Bool.or_eq_true, decide_eq_true_eq, beq_iff_eq] at h
  obtain ⟨⟨⟨h1, h2⟩, h3⟩, h4⟩ := h
  rw [a.N, a.sc]
  exact ⟨h1, (or_assoc.mp h2), h3, h4⟩
theorem AX.l {X : Cx} {sc : Scope} {fnn : Bool} {W : WX} {B : Bx} (a : AX C k fns cns N X sc fnn W B) {i : Nat} {x : Str} (h : bL N sc fnn i x = true) :
    X.N[i]? = some x ∧ Loc X.env.scope x ∧ (X.fn x = true ∨ X.env.scope.names.lookup x = some .local) := by
  unfold bL at h
  simp only [Bool.and_eq_true, Bool.or_eq_true, decide_eq_true_eq] at h
  rw [a.N, a.sc]
  refine ⟨h.1, ?_, ?_⟩
  · exact h.2.imp id fun z => z.2
  · rcases h.2 with z | z
    · exact .inr z
    · exact .inl (a.fn z.1 x)
theorem AX.g {X : Cx} {sc : Scope} {fnn : Bool} {W : WX} {B : Bx} (a : AX C k fns cns N X sc fnn W B) {x : Str} (h : bG sc x = true) : Gl X x ∧ (x == ("__debug__" : Str)) = false := by
  unfold bG at h
  simp only [Bool.and_eq_true, decide_eq_true_eq, beq_iff_eq] at h
  refine ⟨?_, h.2⟩
  show X.env.scope.names.lookup x = _
  rw [a.sc]; exact h.1
theorem own_map {ws : List Nat} : (ownsOf N ws).map (·.2) = ws := by
  unfold ownsOf
  rw [List.map_map]
  exact List.map_id _
theorem AX.blk {X : Cx} {sc : Scope} {fnn : Bool} {W : WX} {B : Bx} (a : AX C k fns cns N X sc fnn W B) (scope : Scope) (s : Shared) (H : Hp) (A : Addr) (cl : List (Str × Addr)) (fp : List Addr) :
    AX C k fns cns N (X.blk s H scope (compEnvC scope cl A X.env) fp) (relS scope sc) false W0 B :=
  ⟨a.hx.blk, a.N, by rw [← a.sc]; rfl, takes0, (fun z => by cases z), a.hB, fun z => by cases z⟩
theorem AX.lam {X : Cx} {sc : Scope} {fnn : Bool} {W : WX} {B : Bx} (a : AX C k fns cns N X sc fnn W B) (scope : Scope) (A : Around) (outer : List PySem.Env) (s : Shared) (H : Hp) (E : XK) (f c' : Addr) (hA : A.guards = some []) (hr : Room k (A.deeper (LamX.lamEnv X scope s.heap.objs.size f c'))) :
    AX C k fns cns N (LamX.lamCx X A outer s H E scope f c') scope false (fun cls d _ H => E cls d H) B :=
  ⟨⟨a.hx.nd, rfl, hA, hr, a.hx.blt, a.hx.fn, a.hx.cn⟩, a.N, rfl, takes_of rfl rfl rfl rfl, (fun z => by cases z), a.hB, fun z => by cases z⟩
theorem AX.blkOk {X : Cx} {sc : Scope} {fnn : Bool} {W : WX} {B : Bx} (a : AX C k fns cns N X sc fnn W B) {scope : Scope} {ws : List Nat} (h : bBlk N sc scope ws = true) : BlkOk X.N X.env.scope scope (ownsOf N ws) := by
  unfold bBlk at h
  simp only [Bool.and_eq_true, decide_eq_true_eq, List.all_eq_true, Bool.or_eq_true, Bool.not_eq_true', decide_eq_false_iff_not, List.any_eq_true, Bool.or_eq_false_iff] at h
  obtain ⟨⟨⟨⟨h1, h2⟩, h3⟩, h4⟩, h5⟩ := h
  rw [a.N, a.sc]
  refine ⟨h1, fun y hy => h2 y hy, fun p hp => h3 p hp, fun y hy e => ?_, fun y hy e => ?_⟩
  · rcases h4 y hy with (z | z) | z
    · exact absurd e z
    · exact .inl z
    · exact .inr z
  · rcases h5 y hy with (z | z) | z
    · rcases e with e | e
      · exact absurd e z.1
      · exact absurd e z.2
    · obtain ⟨p, hp, e⟩ := z
      exact .inl (List.mem_map.mpr ⟨p, hp, e⟩)
    · exact .inr fun hm => z _ hm rfl
theorem set_plain {e : Expr} {env : PySem.Env} (h : notSet e = true) : ∀ x, foldedSetIterable e env x = pure x := fun x => by
  cases e <;> first | rfl | cases h
theorem comp_plain {e : Expr} {t : Option Expr} {l : Nat} {env : PySem.Env} (h : isComp e = false) : swapsWith e t l env = pure false := by
  cases e <;> first | rfl | cases h
theorem typN_or {t : String} (h : typN t = true) : t = "int" ∨ t = "bool" ∨ t = "str" ∨ t = "tuple" ∨ t = "list" ∨ t = "dict" := by
  unfold typN at h
  simp only [Bool.or_eq_true, decide_eq_true_eq, or_assoc] at h
  exact h
theorem bo_rest {op : BoolOp} {a b : Expr} {r : List Expr} {pos : Pos} : isBo (.BoolOp op (a :: b :: r) pos) = true := rfl

theorem isYes_eq {t : T} (h : isYes t = true) : t = .c (.bool true) := by
  unfold isYes at h
  split at h
  · rfl
  · cases h
theorem yes_ok {K : PySem.W.Frag} {B : Bx} {W : WX} {σ : L2.St} {H : Hp} {Q : Bool → Hp → Prop} (h : tT C K B W (.c (.bool true)) σ H Q) : Q true H := by
  obtain ⟨env, s, O, r, q, h⟩ := h
  unfold evE at h
  exact h H (Ex.refl _ _) q
mutual
theorem okE {X : Cx} {B : Bx} {W : WX} {sc : Scope} {fnn : Bool} (a : AX C k fns cns N X sc fnn W B) (t : T) (e : Expr) (h : chkE N fns cns C.tds sc fnn t e = true) : JX C X B W e t := by
  unfold chkE at h
  split at h
  all_goals try simp only [Bool.and_eq_true, decide_eq_true_eq, beq_iff_eq] at h
  · subst h; exact ⟨je_int, fun z => by cases z⟩
  · subst h; exact ⟨je_bl, fun z => by cases z⟩
  · exact ⟨je_non, fun z => by cases z⟩
  · obtain ⟨⟨rfl, h2⟩, h3⟩ := h; exact ⟨je_str h2 h3, fun z => by cases z⟩
  · obtain ⟨h1, h2, h3, h4⟩ := a.v h; exact ⟨je_v h1 h2 h3 h4, fun z => by cases z⟩
  · exact ⟨je_g a.hx h.1 (a.g h.2).1 (a.g h.2).2, fun z => by cases z⟩
  · obtain ⟨⟨rfl, h2⟩, h3⟩ := h; exact ⟨je_op _ (okE a _ _ h2).j (okE a _ _ h3).j, fun z => by cases z⟩
  · obtain ⟨⟨⟨rfl, h2⟩, h3⟩, h4⟩ := h; exact ⟨je_cmp a.hx _ (okE a _ _ h2).j (okE a _ _ h3).j h4, fun z => by cases z⟩
  · obtain ⟨⟨⟨⟨⟨rfl, rfl⟩, h2⟩, h3⟩, h4⟩, h5⟩ := h; exact ⟨je_cmp2 a.hx _ _ (okE a _ _ h2).j (okE a _ _ h3).j (okE a _ _ h4).j h5, fun z => by cases z⟩
  · rename_i ta tb x y r pos
    obtain ⟨h1, h2⟩ := h
    have j : JW C X B W (.BoolOp .And (x :: y :: r) pos) (.and ta tb) := by
      split at h2
      · exact jw_and (okE a _ _ h1).j (jw_bo1 (okE a _ _ h2).j)
      · exact jw_and (okE a _ _ h1).j ((okE a _ _ h2).w rfl)
    exact ⟨j.je, fun _ => j⟩
  · rename_i ta tb x y r pos
    obtain ⟨h1, h2⟩ := h
    have j : JW C X B W (.BoolOp .Or (x :: y :: r) pos) (.or ta tb) := by
      split at h2
      · exact jw_or (okE a _ _ h1).j (jw_bo1 (okE a _ _ h2).j)
      · exact jw_or (okE a _ _ h1).j ((okE a _ _ h2).w rfl)
    exact ⟨j.je, fun _ => j⟩
  · exact ⟨je_not (okE a _ _ h).j, fun z => by cases z⟩
  · exact ⟨je_neg (okE a _ _ h).j, fun z => by cases z⟩
  · exact ⟨je_ife (okE a _ _ h.1.1).j (okE a _ _ h.1.2).j (okE a _ _ h.2).j, fun z => by cases z⟩
  · exact ⟨je_tup (okA a _ _ h), fun z => by cases z⟩
  · exact ⟨je_lst (okA a _ _ h), fun z => by cases z⟩
  · exact ⟨je_sub (okE a _ _ h.1.1).j (okE a _ _ h.1.2).j h.2, fun z => by cases z⟩
  · exact ⟨je_sl (okE a _ _ h.1.1).j (okO a _ _ h.1.2) (okO a _ _ h.2), fun z => by cases z⟩
  · obtain ⟨rfl, h2⟩ := h; exact ⟨je_rev (okE a _ _ h2).j, fun z => by cases z⟩
  · rename_i f es x _ xs _
    obtain ⟨⟨⟨h1, h2⟩, h3⟩, h4⟩ := h
    refine ⟨?_, fun z => by cases z⟩
    cases xs with
    | nil =>
      have e : es = .nil := by cases es <;> first | rfl | (unfold chkG at h3; cases h3)
      subst e
      exact je_call0 a.hx a.hB a.tk h1 (a.g h2).1 (a.g h2).2
    | cons y ys => exact je_call a.hx a.hB a.tk h1 (a.g h2).1 (okG a _ _ h3) h4 (a.g h2).2
  · obtain ⟨⟨⟨rfl, h2⟩, h3⟩, h4⟩ := h
    exact ⟨je_bi a.hx (a.g h2).1 (okA a _ _ h3) h4, fun z => by cases z⟩
  · obtain ⟨⟨⟨⟨⟨⟨rfl, h1⟩, h2⟩, h3⟩, h4⟩, h5⟩, h6⟩ := h
    exact ⟨je_isi a.hx (typN_or h2) h3 (a.g h1).1 (a.g h4).1 (okE a _ _ h5).j h6, fun z => by cases z⟩
  · obtain ⟨⟨⟨⟨⟨⟨⟨⟨rfl, h1⟩, h2⟩, h3⟩, h4⟩, h5⟩, h6⟩, h7⟩, h8⟩ := h
    rename_i tg it cond elt ws y tx ix ifs scope pos
    have j := je_lc (W := W) (pos := pos) a.hx (okI a (tg := tx) _ _ h8 h1) (a.blkOk h2) (tt := tg) (by rw [own_map]; simpa using h3) (fun s H A cl fp => okTt (a.blk scope s H A cl fp) _ _ h4)
      (fun s H A cl fp => (by
        split at h5
        · have h5 := isYes_eq h5
          subst h5
          exact ⟨fun pins s σ H Q I hw => pts_nil.run pins s σ H Q I (yes_ok hw)⟩
        · exact pts_one (okE (a.blk scope s H A cl fp) _ _ h5).j.t
        · cases h5) : ∀ (s : Shared) (H : Hp) (A : Addr) (cl : List (Str × Addr)) (fp : List Addr), PTs (X.blk s H scope (compEnvC scope cl A X.env) fp) ifs (tT C X.K B W0 cond))
      (fun s H A cl fp => (okE (a.blk scope s H A cl fp) _ _ h6).j.e) (set_plain h7)
    rw [own_map] at j
    exact ⟨.of j.1, fun z => by cases z⟩
  · obtain ⟨⟨⟨⟨⟨rfl, h1⟩, h2⟩, h3⟩, h4⟩, h5⟩ := h
    exact ⟨je_join (okE a _ _ h1).j (okE a _ _ h2).j h3 (base_plain h4) (beq_iff_eq.mpr h5), fun z => by cases z⟩
  · obtain ⟨⟨⟨⟨⟨rfl, h1⟩, h2⟩, h3⟩, h4⟩, h5⟩ := h
    exact ⟨je_split (okE a _ _ h1).j (okE a _ _ h2).j h3 (base_plain h4) (beq_iff_eq.mpr h5), fun z => by cases z⟩
  · rename_i f c okS badS es x p params g p2 ys p3 scope p4 p5
    obtain ⟨⟨⟨⟨⟨⟨⟨⟨⟨⟨⟨⟨rfl, h1⟩, h2⟩, h3⟩, h4⟩, h5⟩, h6⟩, h7⟩, h8⟩, h9⟩, h10⟩, h11⟩, h12⟩ := h
    refine ⟨je_told a.hB (a.td rfl x c (some okS) badS h1) (a.g h2).1 (by rw [a.sc]; exact LamX.lamS_by h3) h4 h5 h6 h7 h8 fun A outer s H E f' c' hA hr => ?_, fun z => by cases z⟩
    have b := a.lam scope A outer s H E f' c' hA hr
    cases ys with
    | nil =>
      have e : es = .nil := by cases es <;> first | rfl | (unfold chkG at h11; cases h11)
      subst e
      exact (je_call0 b.hx b.hB b.tk h9 (b.g h10).1 (b.g h10).2).e
    | cons y ys => exact (je_call b.hx b.hB b.tk h9 (b.g h10).1 (okG b _ _ h11) h12 (b.g h10).2).e
  · rename_i f c txt es x p params g p2 ys p3 scope p4 p5
    obtain ⟨⟨⟨⟨⟨⟨⟨⟨⟨⟨rfl, h1⟩, h2⟩, h3⟩, h4⟩, h5⟩, h6⟩, h9⟩, h10⟩, h11⟩, h12⟩ := h
    refine ⟨je_tried a.hB (a.td rfl x c none txt h1) (a.g h2).1 (by rw [a.sc]; exact LamX.lamS_by h3) h4 h5 h6 fun A outer s H E f' c' hA hr => ?_, fun z => by cases z⟩
    have b := a.lam scope A outer s H E f' c' hA hr
    cases ys with
    | nil =>
      have e : es = .nil := by cases es <;> first | rfl | (unfold chkG at h11; cases h11)
      subst e
      exact (je_call0 b.hx b.hB b.tk h9 (b.g h10).1 (b.g h10).2).e
    | cons y ys => exact (je_call b.hx b.hB b.tk h9 (b.g h10).1 (okG b _ _ h11) h12 (b.g h10).2).e
  · obtain ⟨h1, h2⟩ := h
    obtain ⟨g1, g2, g3, g4⟩ := a.v h1
    exact ⟨je_srcG a.hx g1 g2 g3 g4 h2, fun z => by cases z⟩
  · obtain ⟨⟨⟨h1, h2⟩, rfl⟩, rfl⟩ := h
    obtain ⟨g1, g2, g3, g4⟩ := a.v h1
    exact ⟨je_srcL a.hx (a.g h2).1 g1 g2 g3 g4, fun z => by cases z⟩
  · cases h
  termination_by t
theorem okA {X : Cx} {B : Bx} {W : WX} {sc : Scope} {fnn : Bool} (a : AX C k fns cns N X sc fnn W B) (t : T) (es : List Expr) (h : chkA N fns cns C.tds sc fnn t es = true) : PA X es (tA C X.K B W t) := by
  unfold chkA at h
  split at h
  · exact ja_nil
  · simp only [Bool.and_eq_true, beq_iff_eq] at h
    exact ja_cons (okE a _ _ h.1.1).j (okA a _ _ h.1.2) h.2
  · cases h
  termination_by t
theorem okG {X : Cx} {B : Bx} {W : WX} {sc : Scope} {fnn : Bool} (a : AX C k fns cns N X sc fnn W B) (t : T) (es : List Expr) (h : chkG N fns cns C.tds sc fnn t es = true) : PA X es (tG C X.K B W t) := by
  unfold chkG at h
  split at h
  · exact jg_nil
  · simp only [Bool.and_eq_true, beq_iff_eq] at h
    exact jg_cons (okE a _ _ h.1.1).j (okG a _ _ h.1.2) h.2
  · simp only [Bool.and_eq_true] at h
    obtain ⟨h1, h2, h3, h4⟩ := a.v h.1
    exact jg_src h1 h2 h3 h4 (okG a _ _ h.2)
  · cases h
  termination_by t
theorem okO {X : Cx} {B : Bx} {W : WX} {sc : Scope} {fnn : Bool} (a : AX C k fns cns N X sc fnn W B) (t : T) (o : Option Expr) (h : chkO N fns cns C.tds sc fnn t o = true) : PO X o (tO C X.K B W t) := by
  unfold chkO at h
  split at h
  · exact jo_none
  · exact jo_some (okE a _ _ h).j
  · cases h
  termination_by t
theorem okI {X : Cx} {B : Bx} {W : WX} {sc : Scope} {fnn : Bool} (a : AX C k fns cns N X sc fnn W B) {tg : Expr} (t : T) (e : Expr) (hb : bTg t tg = true) (h : chkI N fns cns C.tds sc fnn t e = true) : PI X tg e (tI C X.K B W t) := by
  unfold chkI at h
  split at h
  all_goals try simp only [Bool.and_eq_true, decide_eq_true_eq, beq_iff_eq] at h
  · exact ji_it (okE a _ _ h).j
  · obtain ⟨⟨⟨rfl, h1⟩, h2⟩, h3⟩ := h
    exact ji_rng1 a.hx (a.g h1).1 (okE a _ _ h2).j h3
  · obtain ⟨⟨⟨⟨⟨rfl, h1⟩, h2⟩, h3⟩, h4⟩, h5⟩ := h
    exact ji_rng2 a.hx (a.g h1).1 (okE a _ _ h2).j (okE a _ _ h4).j h3 h5
  · obtain ⟨⟨⟨rfl, h1⟩, h2⟩, h3⟩ := h
    cases tg with
    | Tuple elts kk tpos => exact ji_enu a.hx (a.g h1).1 (okE a _ _ h2).j h3
    | _ => cases hb
  · obtain ⟨⟨⟨⟨⟨rfl, h1⟩, h2⟩, h3⟩, h4⟩, h5⟩ := h
    cases tg with
    | Tuple elts kk tpos => exact ji_zip a.hx (a.g h1).1 (okE a _ _ h2).j (okE a _ _ h4).j h3 h5
    | _ => cases hb
  · obtain ⟨⟨⟨rfl, h1⟩, h2⟩, h3⟩ := h
    exact ji_rvd a.hx (a.g h1).1 (okE a _ _ h2).j h3
  · obtain ⟨⟨⟨⟨⟨rfl, h1⟩, rfl⟩, h2⟩, h3⟩, h4⟩ := h
    exact ji_rvr1 a.hx (a.g h1).1 (a.g h2).1 (okE a _ _ h3).j h4
  · cases h
  termination_by t
theorem okTt {X : Cx} {B : Bx} {W : WX} {sc : Scope} {fnn : Bool} (a : AX C k fns cns N X sc fnn W B) (t : T) (e : Expr) (h : chkT N fns cns C.tds sc fnn t e = true) : PG X e (tGt X.K B t) := by
  unfold chkT at h
  split at h
  · obtain ⟨h1, h2, h3⟩ := a.l h
    exact jt_v a.hx.nd h1 h2 h3
  · obtain ⟨h1, h2, h3⟩ := a.l h
    exact jt_ov a.hx.nd h1 h2 h3
  · exact jt_tup a.hx.calm (okTs a _ _ h)
  · cases h
  termination_by t
theorem okTs {X : Cx} {B : Bx} {W : WX} {sc : Scope} {fnn : Bool} (a : AX C k fns cns N X sc fnn W B) (t : T) (es : List Expr) (h : chkTs N fns cns C.tds sc fnn t es = true) : JTs X B es t := by
  unfold chkTs at h
  split at h
  · exact jts_nil
  · simp only [Bool.and_eq_true, beq_iff_eq] at h
    exact jts_cons (okTt a _ _ h.1.1) (okTs a _ _ h.1.2) h.2
  · cases h
  termination_by t
end
end
end Tre
set_option maxHeartbeats 2000000
/-! Tre13: what the check gives for statements. -/
namespace Tre
open PySem PySem.Spec PyProof.Rows L2

structure AS (C : Cf) (k : Nat) (fns cns N : List Str) (X : Cx) (sc : Scope) (W : WX) (B : Bx) : Prop where
  hB : B.S.ts = C.ts
  td : ∀ (x : Str) (c : Nat) (okS : Option Str) (badS : Str), (x, c, okS, badS) ∈ C.tds → TdOk C X k x c okS badS
  sx : SX C k fns cns X W
  N : X.N = N
  sc : X.env.scope = sc
section
variable {C : Cf} {k : Nat} {fns cns N : List Str} {X : Cx} {B : Bx} {W : WX} {sc : Scope}
theorem AS.ax (a : AS C k fns cns N X sc W B) : AX C k fns cns N X sc true W B := ⟨a.sx.hx, a.N, a.sc, a.sx.tk, fun _ => a.sx.fn, a.hB, fun _ => a.td⟩
theorem bNames_ok (a : AS C k fns cns N X sc W B) : ∀ {es : List Expr} {is : List Nat}, bNames N sc es is = true → ∀ (n : Nat) (e : Expr), es[n]? = some e → ∃ x p i, e = .Name x p ∧ is[n]? = some i ∧ X.N[i]? = some x ∧ Loc X.env.scope x
  | [], [], _, n, e, h => by simp at h
  | .Name x p :: es, i :: is, h, 0, e, he => by
    unfold bNames at h
    simp only [Bool.and_eq_true] at h
    obtain ⟨h1, h2, _⟩ := a.ax.l h.1
    cases he
    exact ⟨x, p, i, rfl, rfl, h1, h2⟩
  | .Name x p :: es, i :: is, h, n + 1, e, he => by
    unfold bNames at h
    simp only [Bool.and_eq_true] at h
    exact bNames_ok a h.2 n e he
theorem tgt_eq {tg : Expr} {X : Cx} (h : isStar tg = false) : (assignEach [tg] X.env).map (·.2) = [assign tg X.env] := by
  cases tg <;> first | rfl | cases h
theorem sole_eq {x v : Expr} {l : Nat} {env : PySem.Env} : swapsWithSole [x] v l env = swapsWith v (some x) l env := rfl
theorem isV_or {t : T} (h : isV t = true) : ∃ i, t = .v i ∨ t = .ov i := by
  unfold isV at h
  split at h
  · exact ⟨_, .inl rfl⟩
  · exact ⟨_, .inr rfl⟩
  · cases h
theorem names2 {t : T} : ∀ {is : List Nat}, namesT t = some is → t = is.foldr (fun i r => .cons (.ov i) r) .nil := by
  unfold namesT
  split
  · intro is e; cases e; rfl
  · intro is e
    obtain ⟨js, e1, e2⟩ := Option.map_eq_some_iff.mp e
    subst e2
    rw [List.foldr_cons, ← names2 e1]
  · intro is e; cases e
theorem okLc (a : AX C k fns cns N X sc true W B) {tg it cond elt : T} {ws : List Nat} {y tx ix : Expr} {ifs : List Expr} {b : Int} {scope : Scope} {pos : Pos} (h : chkE N fns cns C.tds sc true (.lc tg it cond elt ws) (.ListComp y [⟨tx, ix, ifs, b⟩] scope pos) = true) :
    b = 0 ∧ PI X tx ix (tI C X.K B W it) ∧ BlkOk X.N X.env.scope scope (ownsOf N ws) ∧ (∀ j ∈ slotsT tg, j ∈ (ownsOf N ws).map (·.2)) ∧
    (∀ (s : Shared) (H : Hp) (A : Addr) (cl : List (Str × Addr)) (fp : List Addr), PG (X.blk s H scope (compEnvC scope cl A X.env) fp) tx (tGt X.K B tg)) ∧
    (∀ (s : Shared) (H : Hp) (A : Addr) (cl : List (Str × Addr)) (fp : List Addr), PTs (X.blk s H scope (compEnvC scope cl A X.env) fp) ifs (tT C X.K B W0 cond)) ∧
    (∀ (s : Shared) (H : Hp) (A : Addr) (cl : List (Str × Addr)) (fp : List Addr), PE (X.blk s H scope (compEnvC scope cl A X.env) fp) y (tE C X.K B W0 elt)) ∧ ∀ x, foldedSetIterable ix X.env x = pure x := by
  unfold chkE at h
  simp only [Bool.and_eq_true, decide_eq_true_eq, beq_iff_eq] at h
  obtain ⟨⟨⟨⟨⟨⟨⟨⟨rfl, h1⟩, h2⟩, h3⟩, h4⟩, h5⟩, h6⟩, h7⟩, h8⟩ := h
  refine ⟨rfl, okI a (tg := tx) _ _ h8 h1, a.blkOk h2, by rw [own_map]; simpa using h3, fun s H A cl fp => okTt (a.blk scope s H A cl fp) _ _ h4, fun s H A cl fp => ?_, fun s H A cl fp => (okE (a.blk scope s H A cl fp) _ _ h6).j.e, set_plain h7⟩
  split at h5
  · have h5 := isYes_eq h5
    subst h5
    exact ⟨fun pins s σ H Q I hw => pts_nil.run pins s σ H Q I (yes_ok hw)⟩
  · exact pts_one (okE (a.blk scope s H A cl fp) _ _ h5).j.t
  · cases h5
theorem tup_plain {es : List Expr} {k : Nat} {p : Pos} {y : Expr} {l : Nat} {env : PySem.Env} : swapsWith y (some (.Tuple es k p)) l env = pure false := by
  unfold swapsWith
  cases y <;> rfl
/-- a value stored -/
theorem okAsg (a : AS C k fns cns N X sc W B) {tg e : T} {x y : Expr} {pos : Pos} (he : chkE N fns cns C.tds sc true e y = true) (hg : chkT N fns cns C.tds sc true tg x = true) (hm : asgB sc tg x y = true) : PS X (.Assign [x] y pos) (tS C X.K B W (.asg tg e)) := by
  have hk : sc.kind = .function := by rw [← a.sc]; exact a.sx.kind
  unfold asgB at hm
  split at hm
  · rename_i n pn elt c scope pc
    have hb : X.env.blockKind = .function := by unfold Env.blockKind; rw [a.sx.kind]; rfl
    by_cases hw : swB sc scope n pn pc = true
    · rw [hw] at hm
      obtain ⟨i, hi⟩ := isV_or hm
      have hg' := hg
      have hl : bL N sc true i n = true := by rcases hi with rfl | rfl <;> (unfold chkT at hg'; exact hg')
      obtain ⟨h1, h2, _⟩ := a.ax.l hl
      unfold swB at hw
      simp only [Bool.and_eq_true, decide_eq_true_eq, beq_iff_eq] at hw
      cases e with
      | lc tg' it cond elt' ws =>
        obtain ⟨tx, ix, ifs, b⟩ := c
        obtain ⟨rfl, j1, j2, j3, j4, j5, j6, j7⟩ := okLc (B := B) a.ax he
        have := js_asgLc (spos := pos) (py := pn) (pos := pc) a.sx hi h1 (by rw [a.sc]; exact hw.1.1) (sw_true (by rw [a.sc]; exact hk) (by rw [a.sc]; exact hw.1.1) (beq_iff_eq.mpr hw.1.2) hw.2) j1 j2 j3 j4 j5 j6 j7
        rw [own_map] at this
        exact this
      | _ => unfold chkE at he; simp at he
    · refine js_asg (okE a.ax _ _ he).j (okTt a.ax _ _ hg) ?_ rfl rfl
      have hw : swB sc scope n pn pc = false := by simpa using hw
      unfold swB at hw
      rw [sole_eq]
      unfold swapsWith
      have e2 : (X.env.blockKind == .function && X.env.kindOf n == some .local && pn.line == pc.line && !(scope.names.any fun (m, k) => m == n && (k == .local || k == .cell))) = false := by
        rw [hb]
        have e3 : X.env.kindOf n = sc.names.lookup n := by rw [← a.sc]; rfl
        rw [e3]
        cases h1 : decide (sc.names.lookup n = some NameKind.local) with
        | false =>
          have : (sc.names.lookup n == some NameKind.local) = false := by simpa using h1
          rw [this]; simp
        | true =>
          rw [h1] at hw
          cases h2 : (pn.line == pc.line) with
          | false => simp
          | true =>
            rw [h2] at hw
            simp only [Bool.true_and, beq_eq_false_iff_ne, ne_eq, Bool.not_eq_false] at hw
            rw [hw]; simp
      simp only [Expr.pos]
      show (pure _ : Sem Bool) = _
      rw [e2]
  · rename_i n pn z hz
    rw [beq_iff_eq] at hm
    exact js_asg (okE a.ax _ _ he).j (okTt a.ax _ _ hg) (sole_eq.trans (comp_plain hm)) rfl rfl
  · rename_i es kk pt z
    rw [beq_iff_eq] at hm
    refine js_asg (okE a.ax _ _ he).j (okTt a.ax _ _ hg) (sole_eq.trans tup_plain) ?_ rfl
    have := hm
    cases y <;> first | rfl | cases this
  · cases hm
theorem okPar (a : AS C k fns cns N X sc W B) {tgs es : T} {xs ys : List Expr} {kt k2 : Nat} {pt pt2 pos : Pos} (ha : chkA N fns cns C.tds sc true es ys = true) (hm : parB N sc tgs xs ys = true) (hp : PA X ys (tP C X.K B W es)) : PS X (.Assign [.Tuple xs kt pt] (.Tuple ys k2 pt2) pos) (tS C X.K B W (.par tgs es)) := by
  have hk : sc.kind = .function := by rw [← a.sc]; exact a.sx.kind
  unfold parB at hm
  split at hm
  · rename_i is h2 h1
    simp only [Bool.and_eq_true, decide_eq_true_eq] at hm
    exact js_parG a.sx h2 (bNames_ok a hm.1.1) hm.1.2 hm.2 hp (swS_ok a.sc hk h1)
  · rename_i x y i j x' px y' py h2 h1
    simp only [Bool.and_eq_true, decide_eq_true_eq] at hm
    obtain ⟨⟨⟨⟨⟨⟨⟨rfl, rfl⟩, g1⟩, g2⟩, g3⟩, g4⟩, g5⟩, g6⟩ := hm
    have e := names2 h2
    subst e
    match ys, g6 with
    | [u, v], _ => exact js_par2 a.sx (by rw [a.N]; exact g1) (by rw [a.N]; exact g2) g3 (by rw [a.sc]; exact g4) (by rw [a.sc]; exact g5) hp (swS_ok a.sc hk h1)
  · rename_i x y z i j l x' px y' py z' pz h2 h1
    simp only [Bool.and_eq_true, decide_eq_true_eq] at hm
    obtain ⟨⟨⟨⟨⟨⟨⟨⟨⟨⟨⟨⟨rfl, rfl⟩, rfl⟩, g1⟩, g2⟩, g2'⟩, g3⟩, g3'⟩, g3''⟩, g4⟩, g5⟩, g5'⟩, g6⟩ := hm
    have e := names2 h2
    subst e
    match ys, g6 with
    | [u, v, w], _ => exact js_par3 a.sx (by rw [a.N]; exact g1) (by rw [a.N]; exact g2) (by rw [a.N]; exact g2') g3 g3' g3'' (by rw [a.sc]; exact g4) (by rw [a.sc]; exact g5) (by rw [a.sc]; exact g5') hp (swS_ok a.sc hk h1)
  · cases hm
theorem okP (a : AX C k fns cns N X sc true W B) (t : T) (es : List Expr) (h : chkA N fns cns C.tds sc true t es = true) : PA X es (tP C X.K B W t) := by
  unfold chkA at h
  split at h
  · exact jp_nil
  · simp only [Bool.and_eq_true, beq_iff_eq] at h
    exact jp_cons (okE a _ _ h.1.1).j (okP a _ _ h.1.2) h.2
  · cases h
  termination_by t

mutual
theorem okSs (a : AS C k fns cns N X sc W B) (t : T) (ss : List Stmt) (h : chkSs N fns cns C.tds C.xcs sc t ss = true) : PSs X ss (tS C X.K B W t) := by
  unfold chkSs at h
  split at h
  · exact jss_nil
  · simp only [Bool.and_eq_true] at h
    exact jss_cons (okS a _ _ h.1) (okSs a _ _ h.2)
  · exact jss_fz (okSs a _ _ h)
  · exact jss_kl (okSs a _ _ h)
  · cases h
  termination_by t
theorem okS (a : AS C k fns cns N X sc W B) (t : T) (s : Stmt) (h : chkS N fns cns C.tds C.xcs sc t s = true) : PS X s (tS C X.K B W t) := by
  unfold chkS at h
  split at h
  · exact js_pass
  · exact js_brk
  · exact js_cnt
  · simp only [Bool.and_eq_true, beq_iff_eq] at h
    exact js_ex (okE a.ax _ _ h.1).j (comp_plain h.2)
  · exact js_ret (okE a.ax _ _ h).j
  · obtain ⟨h1, h2, h3, h4⟩ := a.ax.v h
    exact js_retv h1 h2 h3 h4
  · exact js_retn
  · simp only [Bool.and_eq_true] at h
    exact js_ifs (okE a.ax _ _ h.1.1).j (okSs a _ _ h.1.2) (okSs a _ _ h.2)
  · simp only [Bool.and_eq_true] at h
    exact js_wh a.sx (okE a.ax _ _ h.1).j (okSs a _ _ h.2)
  · simp only [Bool.and_eq_true] at h
    exact js_for a.sx (okI a.ax _ _ h.2 h.1.1.1.2) (okTt a.ax _ _ h.1.1.1.1) (okSs a _ _ h.1.1.2) (set_plain h.1.2)
  · rw [Bool.and_eq_true, Bool.and_eq_true] at h
    exact okAsg a h.1.1 h.1.2 h.2
  · rw [Bool.and_eq_true] at h
    exact okPar a h.1 h.2 (okP a.ax _ _ h.1)
  · simp only [Bool.and_eq_true, beq_iff_eq] at h
    obtain ⟨h1, h2, h3, h4⟩ := a.ax.v h.1.1.1
    exact js_setx h1 h2 h3 h4 (okE a.ax _ _ h.1.2).j (okE a.ax _ _ h.1.1.2).j h.2
  · simp only [Bool.and_eq_true, decide_eq_true_eq] at h
    obtain ⟨⟨h1, rfl⟩, h3⟩ := h
    obtain ⟨g1, g2, _⟩ := a.ax.l h1
    exact js_aug a.sx g1 g2 (okE a.ax _ _ h3).j
  · simp only [Bool.and_eq_true, beq_iff_eq, decide_eq_true_eq] at h
    obtain ⟨⟨⟨⟨h1, rfl⟩, h3⟩, h4⟩, h5⟩ := h
    obtain ⟨g1, g2, g3, g4⟩ := a.ax.v h1
    exact js_augx g1 g2 g3 g4 (okE a.ax _ _ h4).j (okE a.ax _ _ h3).j h5
  · simp only [Bool.and_eq_true, decide_eq_true_eq] at h
    obtain ⟨⟨⟨⟨rfl, h1⟩, h2⟩, h3⟩, h4⟩ := h
    obtain ⟨g1, g2, g3, g4⟩ := a.ax.v h1
    exact js_app g1 g2 g3 g4 (okE a.ax _ _ h2).j (beq_iff_eq.mp h3) h4
  · simp only [Bool.and_eq_true, decide_eq_true_eq] at h
    obtain ⟨⟨⟨⟨rfl, h1⟩, h2⟩, h3⟩, h4⟩ := h
    obtain ⟨g1, g2, g3, g4⟩ := a.ax.v h1
    exact js_ext g1 g2 g3 g4 (okE a.ax _ _ h2).j (beq_iff_eq.mp h3) h4
  · simp only [Bool.and_eq_true, decide_eq_true_eq] at h
    obtain ⟨⟨⟨⟨⟨h1, h2⟩, h3⟩, h4⟩, h5⟩, h6⟩ := h
    exact js_raise a.sx h1 (a.ax.g h2).1 (okA a.ax _ _ h3) h4 h5 h6
  · simp only [Bool.and_eq_true, decide_eq_true_eq] at h
    exact js_raise0 a.sx h.1 (a.ax.g h.2).1
  · simp only [Bool.and_eq_true, decide_eq_true_eq] at h
    obtain ⟨⟨h1, h2⟩, h3⟩ := h
    obtain ⟨g1, g2, g3, g4⟩ := a.ax.v h1
    exact js_srcS a.sx.hx g1 g2 g3 g4 h2 (okE a.ax _ _ h3).j
  · simp only [Bool.and_eq_true, decide_eq_true_eq] at h
    obtain ⟨⟨⟨⟨⟨h1, rfl⟩, rfl⟩, rfl⟩, rfl⟩, h4⟩ := h
    obtain ⟨g1, g2, g3, g4⟩ := a.ax.v h1
    exact js_srcP a.sx.hx g1 g2 g3 g4 h4
  · simp only [Bool.and_eq_true, decide_eq_true_eq] at h
    obtain ⟨⟨rfl, h1⟩, h4⟩ := h
    obtain ⟨g1, g2, g3, g4⟩ := a.ax.v h1
    exact js_popS g1 g2 g3 g4 h4
  · cases h
  termination_by t
end
end
end Tre
set_option maxHeartbeats 2000000
/-! Tre14: a program's defs keep their promises. -/
namespace Tre
open PySem PySem.Spec PyProof.Rows L2

section
variable {K : PySem.W.Frag} {S : SA} {O : Addr → Prop} {H : Hp}
theorem AR.len : ∀ {vs : List V} {xs : List Arg}, AR K S O H vs xs → vs.length = xs.length
  | [], [], _ => rfl
  | v :: vs, .d x :: xs, h => by rw [List.length_cons, List.length_cons, AR.len h.2]
  | v :: vs, .src :: xs, h => by rw [List.length_cons, List.length_cons, AR.len h.2]
theorem AR.get : ∀ {xs : List Arg} {vs : List V} {i : Nat} {x : Arg}, AR K S O H vs xs → xs[i]? = some x → ∃ v, vs[i]? = some v ∧ match x with
    | .d d => Rp K (hide H O) v d
    | .src => v = .ref S.a1
  | [], _, _, _, _, e => by simp at e
  | .d x :: xs, [], _, _, h, _ => h.elim
  | .src :: xs, [], _, _, h, _ => h.elim
  | .d x :: xs, v :: vs, 0, y, h, e => by cases e; exact ⟨v, rfl, h.1⟩
  | .src :: xs, v :: vs, 0, y, h, e => by cases e; exact ⟨v, rfl, h.1⟩
  | .d x :: xs, v :: vs, i + 1, y, h, e => by
    obtain ⟨u, h1, h2⟩ := AR.get (i := i) (xs := xs) (vs := vs) h.2 (by simpa using e)
    exact ⟨u, by simpa using h1, h2⟩
  | .src :: xs, v :: vs, i + 1, y, h, e => by
    obtain ⟨u, h1, h2⟩ := AR.get (i := i) (xs := xs) (vs := vs) h.2 (by simpa using e)
    exact ⟨u, by simpa using h1, h2⟩
theorem startE_get {n : Nat} {xs : List Arg} {i : Nat} {x : Slot} (h : (startE n xs)[i]? = some x) : x = .e ∨ ∃ y, xs[i]? = some y ∧ x = y.slot := by
  unfold startE at h
  by_cases hi : i < xs.length
  · rw [List.getElem?_append_left (by rw [List.length_map]; exact hi), List.getElem?_map] at h
    obtain ⟨y, e1, e2⟩ := Option.map_eq_some_iff.mp h
    exact .inr ⟨y, e1, e2.symm⟩
  · rw [List.getElem?_append_right (by rw [List.length_map]; omega)] at h
    left
    exact (List.mem_replicate.mp (List.mem_of_getElem? h)).2
theorem rl_start {N : List Str} {n : Nat} {vs : List V} {xs : List Arg} (o1 : ∀ b, S.Out b → O b) (hO : ∀ a, O a → H a ≠ none) (ar : AR K S O H vs xs) (hn : N.length = n) (hl : xs.length ≤ n) :
    Rl K S O H O (startE n xs) (L2.start N vs) H where
  len := by
    have := ar.len
    unfold startE L2.start
    rw [List.length_append, List.length_map, List.length_replicate, List.length_append, List.length_map, List.length_replicate]
    omega
  so := o1
  sub := fun _ h => h
  dom := hO
  dom0 := hO
  same := Ex.refl _ _
  slots := fun i x o h1 h2 => by
    rcases startE_get h1 with rfl | ⟨y, e, rfl⟩
    · trivial
    · obtain ⟨v, e2, e3⟩ := ar.get e
      have hi : i < vs.length := (List.getElem?_eq_some_iff.mp e2).1
      unfold L2.start at h2
      rw [List.getElem?_append_left (by rw [List.length_map]; exact hi), List.getElem?_map, e2] at h2
      cases h2
      cases y with
      | d d => exact ⟨v, rfl, e3⟩
      | src => exact congrArg some e3
  inj := fun i j d d' a h1 _ _ _ => by
    rcases startE_get h1 with h | ⟨y, e, h⟩
    · cases h
    · cases y <;> cases h
end

/-- what is told of the defs that catch, wherever a def runs -/
def TdAll (G : Nat → Option D) (xcs : List (Str × Nat)) (ts : List (Addr × Str)) (Xn : XT) (tds : List (Str × Nat × Option Str × Str)) (prog : Program) (w : World) (K : PySem.W.Frag) (mg : Str → Option Value) (base : Heap) (N : List Str) (x qual : Str) (params : Arguments) (body : List Stmt) (scope : Scope) (a : Addr) : Prop :=
  ∀ (Φ : Nat → List Arg → Src → R (Bool × D)) (k : Nat) (A : Around) (outer : List PySem.Env) (s : Shared) (H : Hp) (E : XK) (cdv : Value), (∃ (oc : Value) (od : Option Addr) (dV kV doc pm : Value) (an : Option Addr) (ct : Value) (osl : Array (Option Value)), K.lookup a = some ⟨oc, od, .func (PySem.W.fnOf x qual params body scope dV kV doc pm an cdv ct), osl⟩) →
    PySem.W.codeIn K cdv qual = true → A.guards = some [] → Room (k + 2) (A.deeper (envOfC qual scope s.heap.objs.size a cdv)) → ∀ (y : Str) (c : Nat) (o : Option Str) (t : Str), (y, c, o, t) ∈ tds → TdOk ⟨Φ, G, Xn, xcs, ts, tds⟩ (cxOf (L2.CX prog w) prog w K mg base N qual scope a cdv A outer s H E) k y c o t
/-- what is told of a def -/
def DefOk (P : List Fn) (G : Nat → Option D) (fns cns : List Str) (xcs : List (Str × Nat)) (ts : List (Addr × Str)) (Xn : XT) (prog : Program) (w : World) (K : PySem.W.Frag) (mg : Str → Option Value) (base : Heap) (f : Nat) (a : Addr) (fd : FuncData) (ps : List Str) : Prop := match P[f]? with
  | none => True
  | some (.prim g) => ∀ k, FnG prog w K mg base (L2.CX prog w) (k + 4) a fd ps (spF ts Xn K g)
  | some (.body ar n b) => ∃ (x qual : Str) (params : Arguments) (body : List Stmt) (scope : Scope) (N : List Str) (tds : List (Str × Nat × Option Str × Str)),
      FunD K x qual params body scope [] [] a fd ∧ FnScope N ps scope ∧ N.length = n ∧ ps.length = ar ∧ ar ≤ n ∧ chkSs N fns cns tds xcs scope b body = true ∧ TdAll G xcs ts Xn tds prog w K mg base N x qual params body scope a
structure ProgOk (P : List Fn) (G : Nat → Option D) (fns cns : List Str) (xcs : List (Str × Nat)) (ts : List (Addr × Str)) (Xn : XT) (prog : Program) (w : World) (K : PySem.W.Frag) (mg : Str → Option Value) (base : Heap) : Prop where
  blt : ∀ x ∈ bltNames, mg x = none
  cn : ∀ (i : Nat) (x : Str) (d : D), cns[i]? = some x → G i = some d → ∃ u v, mg x = some u ∧ RelV v u ∧ Rp K (fun _ => none) v d
  fn : ∀ (f : Nat) (x : Str), fns[f]? = some x → ∃ (a : Addr) (fd : FuncData) (ps : List Str), mg x = some (.ref a) ∧ PySem.W.keepIn K (.ref a) = true ∧ Binds K fd ps [] ∧ DefOk P G fns cns xcs ts Xn prog w K mg base f a fd ps
  xc : ∀ (c : Nat) (x : Str) (ar : Nat), xcs[c]? = some (x, ar) → ∀ (Φ : Nat → List Arg → Src → R (Bool × D)) (X : Cx) (W : WX), X.prog = prog → X.w = w → X.K = K → X.mg = mg → X.base = base → X.calm = true → Room 3 X.A → Takes X W → XcOk ⟨Φ, G, Xn, xcs, ts, []⟩ X c x ar

section
variable {P : List Fn} {G : Nat → Option D} {fns cns : List Str} {xcs : List (Str × Nat)} {ts : List (Addr × Str)} {Xn : XT} {prog : Program} {w : World} {K : PySem.W.Frag} {mg : Str → Option Value} {base : Heap}
theorem spF_stuck {vs : List V} {H : Hp} {Q : VK} {E : XK} {F : List Arg → Src → R (Bool × D)} (hF : ∀ xs s, F xs s = .stuck) (h : spF ts Xn K F vs H Q E) : False := by
  obtain ⟨S, O, xs, s, _, _, _, _, _, hq⟩ := h
  rw [hF] at hq
  exact hq
theorem fnG_stuck {k : Nat} {a : Addr} {fd : FuncData} {ps : List Str} {F : List Arg → Src → R (Bool × D)} (hF : ∀ xs s, F xs s = .stuck) : FnG prog w K mg base (L2.CX prog w) k a fd ps (spF ts Xn K F) :=
  ⟨fun _ _ _ _ h => (spF_stuck hF h).elim, fun _ _ _ _ _ _ _ _ _ _ _ _ _ _ h => (spF_stuck hF h).elim⟩
/-- A DEF BY ITS TREE -/
theorem body_ok {k ar n : Nat} {b : T} {tds : List (Str × Nat × Option Str × Str)} {a : Addr} {fd : FuncData} {ps : List Str} {x qual : Str} {params : Arguments} {body : List Stmt} {scope : Scope} {N : List Str} (F : FunD K x qual params body scope [] [] a fd) (fs : FnScope N ps scope) (hn : N.length = n) (hp : ps.length = ar) (hle : ar ≤ n)
    (hc : chkSs N fns cns tds xcs scope b body = true) (td : TdAll G xcs ts Xn tds prog w K mg base N x qual params body scope a) (blt : ∀ x ∈ bltNames, mg x = none)
    (cn : ∀ (i : Nat) (x : Str) (d : D), cns[i]? = some x → G i = some d → ∃ u v, mg x = some u ∧ RelV v u ∧ Rp K (fun _ => none) v d) {Φ : Nat → List Arg → Src → R (Bool × D)} (hk : 3 ≤ k)
    (xc : ∀ (c : Nat) (x : Str) (ar : Nat), xcs[c]? = some (x, ar) → ∀ (Φ : Nat → List Arg → Src → R (Bool × D)) (X : Cx) (W : WX), X.prog = prog → X.w = w → X.K = K → X.mg = mg → X.base = base → X.calm = true → Room 3 X.A → Takes X W → XcOk ⟨Φ, G, Xn, xcs, ts, []⟩ X c x ar)
    (fn : ∀ (f : Nat) (x : Str), fns[f]? = some x → ∃ (a : Addr) (fd : FuncData) (ps : List Str), mg x = some (.ref a) ∧ PySem.W.keepIn K (.ref a) = true ∧ Binds K fd ps [] ∧ FnG prog w K mg base (L2.CX prog w) k a fd ps (spF ts Xn K (Φ f))) :
    FnG prog w K mg base (L2.CX prog w) (k + 3) a fd ps (spF ts Xn K fun xs s => Fn.run Φ G xs s (.body ar n b)) := by
  obtain ⟨oc, od, dV, kV, doc, pm, an, cdv, ct, osl, rfl, lk, hcd, _, _⟩ := F.ex
  refine fnG_of lk hcd fs (fun vs H Q E h => ?_) fun A outer s H vs Q E hA hr h => ?_
  · obtain ⟨S, O, xs, s, _, _, _, _, ar', hq⟩ := h
    have hq : RQ (if xs.length = ar then endF (evS Φ G b (startE n xs) s) else .stuck) _ _ := hq
    by_cases hx : xs.length = ar
    · rw [ar'.len, hx, hp]
    · rw [if_neg hx] at hq; exact hq.elim
  · obtain ⟨S, O, xs, s0, hts, o1, hO, q, ar', hq⟩ := h
    have hq : RQ (if xs.length = ar then endF (evS Φ G b (startE n xs) s0) else .stuck) _ _ := hq
    by_cases hx : xs.length = ar
    case neg => rw [if_neg hx] at hq; exact hq.elim
    rw [if_pos hx] at hq
    have hr2 : Room k (A.deeper (envOfC qual scope s.heap.objs.size a cdv)) := hr.mono (by omega)
    have sx : SX ⟨Φ, G, Xn, xcs, ts, tds⟩ k fns cns (cxOf (L2.CX prog w) prog w K mg base N qual scope a cdv A outer s H E) (fun cls d _ H => E cls d H) :=
      ⟨⟨fs.nd, rfl, hA, hr2, blt, fn, cn⟩, takes_of rfl rfl rfl rfl, passes_of rfl, fun _ => rfl, fs.kind, fun c x ar h => xc c x ar h Φ _ _ rfl rfl rfl rfl rfl rfl (hr2.mono hk) (takes_of rfl rfl rfl rfl)⟩
    refine ⟨tS ⟨Φ, G, Xn, xcs, ts, tds⟩ K ⟨S, O, H⟩ (fun cls d _ H => E cls d H) b, okSs (C := ⟨Φ, G, Xn, xcs, ts, tds⟩) (B := ⟨S, O, H⟩) ⟨hts, td Φ k A outer s H E cdv ⟨oc, od, dV, kV, doc, pm, an, ct, osl, lk⟩ hcd hA hr, sx, rfl, rfl⟩ b body hc, startE n xs, s0, O, rl_start o1 hO ar' hn (by omega), q, ?_⟩
    have hq : RQ ((evS Φ G b (startE n xs) s0).bind _) _ _ := hq
    refine hq.bind.mono (fun fl s1 h1 => ?_) fun c a' s1 z => ?_
    · cases fl with
      | next env' => exact fun σ' H' O' r' q' m' => h1 .non H' r'.same q' Rp.non
      | ret o d => exact h1
      | brk env' => exact h1.elim
      | cnt env' => exact h1.elim
    · exact fun σ' H' cls d e q' x => z H' cls d e q' x
/-- ALL DEFS, to the depth k -/
theorem prog_ok (p : ProgOk P G fns cns xcs ts Xn prog w K mg base) : ∀ (k f : Nat) (x : Str), fns[f]? = some x → ∃ (a : Addr) (fd : FuncData) (ps : List Str), mg x = some (.ref a) ∧ PySem.W.keepIn K (.ref a) = true ∧ Binds K fd ps [] ∧
    FnG prog w K mg base (L2.CX prog w) (3 * k + 3) a fd ps (spF ts Xn K (Phi P G k f))
  | 0, f, x, h => by
    obtain ⟨a, fd, ps, h1, h2, h3, _⟩ := p.fn f x h
    exact ⟨a, fd, ps, h1, h2, h3, fnG_stuck fun xs s => rfl⟩
  | k + 1, f, x, h => by
    obtain ⟨a, fd, ps, h1, h2, h3, h4⟩ := p.fn f x h
    refine ⟨a, fd, ps, h1, h2, h3, ?_⟩
    unfold DefOk at h4
    cases e : P[f]? with
    | none => exact fnG_stuck fun xs s => by unfold Phi; rw [e]
    | some fn =>
      have hF : Phi P G (k + 1) f = fun xs s => Fn.run (Phi P G k) G xs s fn := by
        funext xs s
        conv => lhs; unfold Phi
        rw [e]
      rw [hF]
      rw [e] at h4
      cases fn with
      | prim g => exact h4 (3 * k + 2)
      | body ar n b =>
        obtain ⟨x', qual, params, body, scope, N, tds, F, fs, hn, hp, hle, hc, td⟩ := h4
        exact body_ok F fs hn hp hle hc td p.blt p.cn (Nat.le_add_left 3 (3 * k)) p.xc (prog_ok p k)
end
end Tre
set_option maxHeartbeats 2000000
/-! TreE: own exceptions whose __init__ says super().__init__(..). -/
namespace Tre
open PySem PySem.Spec PyProof.Rows L2 NdefX

/-- what the written part says of a class's __init__ that names __class__ -/
structure SupK (K : PySem.W.Frag) (P : Program) (C f : Addr) (F : NF) (cc : Addr) (slf : Str) (ps : List Str) : Prop where
  lk : ∃ (oc : Value) (od : Option Addr) (doc pm ct : Value) (osl : Array (Option Value)), K.lookup f = some ⟨oc, od, .func (F.fd doc pm ct), osl⟩
  cl : F.cl = [(("__class__" : Str), cc)]
  code : PySem.W.codeIn K (.ref F.c) F.qual = true
  file : ∃ (ccl : Value) (cdd : Option Addr) (vs : Array Value) (ccs : Array (Option Value)) (file : Str) (tf : Tok), K.lookup F.c = some ⟨ccl, cdd, .fields vs, ccs⟩ ∧ vs[2]? = some (.str file tf) ∧ ((P.main.file : Str) == file) = true
  cell : ∃ (cl : Value) (cld : Option Addr) (csl : Array (Option Value)), K.lookup cc = some ⟨cl, cld, .cell (some (.ref C)), csl⟩
  oex : OexC K C
  along : PySem.W.ks_superIn K C C "__init__" = some (some (.builtin "ValueError.__init__"))
  sub : PySem.W.subIn K (.ref C) (.type "ValueError") = some true
  mro : PySem.W.mroIn K C (.ref C) = some true
  opq : PySem.W.nsIn K PySem.cStatics "thirdparty.any" = some none
  top : (P.main.scope.names.lookup ("super" : Str)).isSome = false
  sup : PySem.W.nsIn K mainGlobals "super" = some none
  first : ∃ ar : PySem.Arg, (F.params.posonlyargs ++ F.params.args).head? = some ar ∧ ar.arg = slf
  head : ∃ r, ps = slf :: r
  sk : F.scope.names.lookup ("super" : Str) = some .globalImplicit

section
variable {P : Program} {w : World} {K : PySem.W.Frag} {mg : Str → Option Value} {base : Heap} {C f cc : Addr} {F : NF} {slf : Str} {N ps : List Str} {k : Nat}
theorem excObj_of {P : Program} {w : World} {C : Addr} {H : Hp} {h : Heap} {a : Addr} (hok : HOk P w H h) (e : H a = some (exo a C none)) : ∃ t1 : Addr, h.get? a = some (PySem.W.excObj C t1 none .none) := exo_at hok e
/-- ValueError.__init__, bound, called -/
theorem mw_call {X : Cx} {A : Around} {E : Value → Shared → Prop} {pins : List (Addr × Obj)} {σ : L2.St} {H : Hp} {s : Shared} {u a C : Addr} {us : List Value} {Q : Value → Shared → Prop} (T : OexC X.K C) (I : Inv X pins σ H s) (hu : s.heap.get? u = some (PySem.W.kxs_mw "ValueError.__init__" a)) (e : H a = some (exo a C none)) (hl : us.length ≤ sizeLine)
    (h : ∀ s', Inv X pins σ H s' → Q .none s') : wpAny (model X.prog X.w) A (call (.ref u) us) Q E s := by
  obtain ⟨nm, q, N, bs, bm, sn, sub, ab, col, dd, k0, k1, k2, k3, k5, hC, hbm⟩ := T.cls
  obtain ⟨t1, ho⟩ := exo_at I.hok e
  obtain ⟨hp, g, d, t, os⟩ := s
  refine wpAny_call (codeAny_of_tree ?_)
  show wpAny _ A.in1 (callAny (.ref u) ⟨us, []⟩) _ _ _
  simp only [callAny]
  refine wpAny_bind (wpAny_load hu ?_)
  simp only [PySem.W.kxs_mw, show (Value.type "method-wrapper" == Value.type "method" || Value.type "method-wrapper" == Value.type "builtin_function_or_method" || Value.type "method-wrapper" == Value.type "method-wrapper") = true by decide, if_true]
  refine PySem.W.KFB.if_so (by decide) ?_
  refine wpAny_bind (PySem.W.check_bound_init F.excBase_ValueError.toExcCallFacts (I.kIn _ _ hC) ho rfl ?_)
  refine wpAny_bind (wpAny_pure (wpAny_pure ?_))
  refine ⟨plainId_quiet F.excBase_ValueError.init.plain _, codeAny_builtin F.excBase_ValueError.initEntry ?_⟩
  refine PySem.W.exc_init_tree (cls := .ref C) (t0 := t1) (dv := none) (c2 := .none) (c3 := .none) (b4 := .bool false) ho hl fun h' k hx ht => ?_
  have J := I.write (t' := t) (x := a) (e := a) (o := exo a C none) (by rw [e]; exact True.intro) (.inl rfl) k ⟨_, hx⟩ (exo_ok hx)
  have eu : upd H a (exo a C none) = H := by
    funext b
    by_cases hb : b = a
    · rw [hb, upd_same, e]
    · rw [upd_ne hb]
  rw [eu] at J
  exact h _ J
/-- THE RULE -/
theorem init_ok {es : List Expr} {e : Expr} {rest : List Stmt} {p0 p1 p2 p3 p4 : Pos} {ta : TA} {tr : TS} (T : SupK K P C f F cc slf ps) (S : NScope N ps ["__class__"] F.scope)
    (hbody : F.body = .Expr (.Call (.Attribute (.Call (.Name "super" p0) [] [] p1) "__init__" p2) (e :: es) [] p3) p4 :: rest)
    (he : ∀ env, starEach (e :: es) env = (false, eval e env) :: starEach es env) (hpl : ∀ env, (backTo p3 (starEach es env)).any (·.1) = false)
    (ha : ∀ (A : Around) (outer : List PySem.Env) (s : Shared) (H : Hp) (E : XK), PA (ncx (L2.CX P w) P w K mg base N F f A outer s H E) (e :: es) ta)
    (hr' : ∀ (A : Around) (outer : List PySem.Env) (s : Shared) (H : Hp) (E : XK), PSs (ncx (L2.CX P w) P w K mg base N F f A outer s H E) rest tr)
    (pl : Addr → Sem Bool) (hcall : ∀ L, eval (.Call (.Attribute (.Call (.Name "super" p0) [] [] p1) "__init__" p2) (e :: es) [] p3) (envF F f L) = (do
      let ov ← attributeBase (.Call (.Name "super" p0) [] [] p1) "__init__" (envF F f L) (eval (.Call (.Name "super" p0) [] [] p1) (envF F f L))
      standAt p2.atName
      let (g, first) ← holding [ov] (getMethod ov "__init__" (pl L))
      callWith p3 g first (backTo p3 (starEach (e :: es) (envF F f L))) []))
    {doc pm ct : Value} {oc : Value} {od : Option Addr} {osl : Array (Option Value)} (lk : K.lookup f = some ⟨oc, od, .func (F.fd doc pm ct), osl⟩) :
    FnOk P w K mg base (L2.CX P w) (k + 1) f (F.fd doc pm ct) ps (fun vs H Q _ => ∃ a r, vs.length = ps.length ∧ vs = .ref a :: r ∧ H a = some (exo a C none) ∧
      ta (startF N vs [some (.ref C)]) H fun us H1 => us.length ≤ 1000 ∧ H1 a = some (exo a C none) ∧ tr { nx := fun _ H' => Q .non H', rt := Q } (startF N vs [some (.ref C)]) H1) := by
  refine ⟨fun vs H Q E h => h.choose_spec.choose_spec.1, fun A outer s H args us vs Q E hr e0 hb r hsp => ?_⟩
  obtain ⟨a, rw0, hl, hvs, ea, hsp⟩ := hsp
  subst hvs
  have kin : K.In s.heap := e0.mod.kin.keeps fun b o e => (e0.bs b o e).1
  have lim : s.heap.NoLimit := e0.mod.nolimit.keeps fun b o e => (e0.bs b o e).1
  obtain ⟨cl, cld, csl, hcell⟩ := T.cell
  obtain ⟨ccl, cdd, cvs, ccs, file, tf, hcode, hvs2, hfile⟩ := T.file
  obtain ⟨ar, har, hself⟩ := T.first
  obtain ⟨psr, hps⟩ := T.head
  have hcc : CellsAt F.cl ["__class__"] [some (V.ref C)] s.heap H := by
    rw [T.cl]
    have hc0 : H cc = none := by
      have := (e0.bs cc _ (e0.mod.kin _ _ hcell)).2
      exact this
    refine ⟨rfl, fun y c hy => ?_, fun x y c hx hy => ?_, fun i y hi => ?_⟩
    · rw [List.lookup_cons] at hy
      split at hy
      · cases hy; exact ⟨hc0, _, _, kin _ _ hcell, rfl⟩
      · cases hy
    · rw [List.lookup_cons] at hx hy
      split at hx
      · split at hy
        · rename_i h1 _ h2
          rw [beq_iff_eq] at h1 h2
          rw [h1, h2]
        · cases hy
      · cases hx
    · cases i with
      | zero =>
        cases hi
        refine ⟨cc, by simp, fun v hv => ?_⟩
        cases hv
        exact ⟨.ref C, rfl, _, kin _ _ hcell, rfl⟩
      | succ i => simp at hi
  have hkc : F.scope.names.lookup ("__class__" : Str) = some .free := S.frk _ (by simp)
  have hka : F.scope.names.lookup slf = some .local := S.par _ (by rw [hps]; exact List.mem_cons_self)
  refine PySem.ks_codeAny_call_defAt hr.depth (kin _ _ lk) rfl lim (PySem.W.codeRec_of kin T.code) (body := F.body) rfl hb S.nocell (fun ⟨n, _⟩ hy => S.par n (List.of_mem_zip hy).1) (fun h₀ hns kp => ?_) S.co S.gen S.kind
  show PySem.wpAt _ (A.deeper (envF F f s.heap.objs.size)) (.func F.body (envF F f s.heap.objs.size)) (execs F.body (envF F f s.heap.objs.size)) _ _ _
  have I0 : Inv (ncx (L2.CX P w) P w K mg base N F f A outer s H E) [] (startF N (.ref a :: rw0) [some (.ref C)]) H { s with heap := h₀, toks := s.toks + (ps.zip us).length } := inv_startN S hr.hd e0 hl r hcc hns kp
  have hAe : (ncx (L2.CX P w) P w K mg base N F f A outer s H E).A = A.deeper (envF F f s.heap.objs.size) := rfl
  have haP := ha A outer s H E
  have hrP := hr' A outer s H E
  have kinX : K.In h₀ := kin.keeps kp
  -- what the body's rest leaves
  have fin : ∀ {s' : Shared} {u : Value} {v : V} {σ' : L2.St} {H' : Hp}, Inv (ncx (L2.CX P w) P w K mg base N F f A outer s H E) [] σ' H' s' → L2.RelV v u → Q v H' → CR (L2.CX P w) outer P w H s Q E (.ok (.ret u)) s' :=
    fun J rv q => ⟨_, _, J.os, J.bare, J.base, J.hok, rv, q⟩
  obtain ⟨t1, ho⟩ := excObj_of (C := C) I0.hok ea
  obtain ⟨nm, q, N', bs, bm, sn, sub, ab, col, dd, k0, k1, k2, k3, k5, hC, hbm⟩ := T.oex.cls
  cases hcls : PySem.W.clsIn K C with
  | none =>
    have h := T.along
    unfold PySem.W.ks_superIn at h; rw [hcls] at h; cases h
  | some cd =>
  have hal := T.along
  unfold PySem.W.ks_superIn at hal
  rw [hcls] at hal
  have hCo : ∃ oD, h₀.get? C = some oD ∧ oD.data = .cls cd := by
    unfold PySem.W.clsIn at hcls
    split at hcls
    · rename_i hcl
      cases hcls
      exact ⟨_, kinX _ _ hcl, rfl⟩
    · cases hcls
  obtain ⟨oD, hD1, hD2⟩ := hCo
  have hxC : a ≠ C := fun z => by
    have h1 := (e0.bs C _ (e0.mod.kin _ _ hC)).2
    rw [← z, ea] at h1
    cases h1
  rw [hbody]
  refine PySem.ks_wpAt_execs_cons ?_
  have hint : interactive (envF F f s.heap.objs.size) = false := by
    show (F.scope.kind == .module && _) = false
    rw [S.kind]; rfl
  refine PySem.ks_wpAt_Expr_any (PySem.ks_wpAt_MethodCall (pl := pl s.heap.objs.size) ?_ (hcall _)) hint rfl
  refine PySem.ks_wpAt_super_base (env := envF F f s.heap.objs.size) T.sk hkc (by decide) rfl (kinX _ _ lk) rfl har rfl (kinX _ _ hcode) rfl hvs2 hfile T.top ?_
  have boot : bootBuiltins ("super" : Str) = some (.type "super") := by decide +kernel
  refine PySem.W.ks_loadName_global (env := envF F f s.heap.objs.size) S.kind T.sk ?_
  obtain ⟨mb, hmb, hmb2⟩ := e0.mod.blt
  have bsk : ∀ b o, base.get? b = some o → h₀.get? b = some o := fun b o e => kp _ _ (e0.bs b o e).1
  refine PySem.Calls.loadGlobal_builtin (env := envF F f s.heap.objs.size) (e0.mod.glob.keeps bsk) (PySem.W.mg_none_of e0.mod.kin e0.mod.glob T.sup) (hmb.keeps bsk) ((hmb2 _ (by decide)).trans boot) ⟨rfl, ?_⟩
  have hcl : (envF F f s.heap.objs.size).cells.lookup ("__class__" : Str) = some cc := by
    show F.cl.lookup _ = _
    rw [T.cl]
    rfl
  refine wpAny_loadName_free (env := envF F f s.heap.objs.size) S.kind hkc hcl ⟨_, kinX _ _ hcell, rfl⟩ ?_
  rw [hself]
  have hu0 : us[0]? = some (Value.ref a) := by
    cases r with
    | cons r1 r2 =>
      obtain rfl := (show _ = Value.ref a from r1)
      rfl
  have ndP : ps.Nodup := by
    have q := S.nd.sublist (List.take_sublist (ps.length + 1) N)
    have e1 : N.take (ps.length + 1) = ps ++ [("__class__" : Str)] := S.pre
    rw [e1] at q
    exact (List.nodup_append.mp q).1
  refine wpAny_loadName_local (env := envF F f s.heap.objs.size) S.kind hka hns (zip_look ndP (i := 0) (by rw [hps]; rfl) hu0) ?_
  refine PySem.ks_wpAny_isType_cls hD1 hD2 ⟨rfl, ?_⟩
  refine PySem.ks_wpAny_call_super hD1 hD2 ho rfl (fun c z => by cases z) (PySem.W.looks_mroIn kinX T.mro) (fun h1 hso k1 => ?_)
  have k01 : ∀ b o, h₀.get? b = some o → h1.get? b = some o := k1
  have kin1 : K.In h1 := kinX.keeps k01
  have I1 : Inv (ncx (L2.CX P w) P w K mg base N F f A outer s H E) [] (startF N (.ref a :: rw0) [some (.ref C)]) H { s with heap := h1, toks := s.toks + (ps.zip us).length } := I0.kept (t' := s.toks + (ps.zip us).length) k01
  have hin : PySem.W.Looks (model P w) h1 (isInstance (.ref a) (.type "ValueError")) true :=
    (PySem.W.InstAt.type (C := C) (od := none) ⟨k01 _ _ ho, rfl, rfl, trivial⟩).andThen (PySem.W.looks_subIn kin1 T.sub)
  refine PySem.W.kxs_getMethod PySem.W.kxs_ValueError hso (PySem.W.looks_opaque kin1 T.opq) (l₀ := cd.mro) (fun A Q E s k q => wpAny_bind ((PySem.W.looks_clsIn kin1 hcls) A _ E s k (wpAny_pure q))) rfl kin1 hal hin hxC (by decide) ?_
  let u := h1.objs.size
  have hu : (h1.push (PySem.W.kxs_mw "ValueError.__init__" a)).get? u = some (PySem.W.kxs_mw "ValueError.__init__" a) := Heap.get?_push_at rfl rfl
  have I2 : Inv (ncx (L2.CX P w) P w K mg base N F f A outer s H E) [] (startF N (.ref a :: rw0) [some (.ref C)]) H { s with heap := h1.push (PySem.W.kxs_mw "ValueError.__init__" a), toks := s.toks + (ps.zip us).length + 1 } :=
    I1.kept (t' := s.toks + (ps.zip us).length + 1) fun b o e => Heap.get?_push_of_some _ e
  have fp := I1.fpOk (Nat.le_refl h1.objs.size) (I1.hok.fresh (Nat.le_refl _))
  have I3 : Inv (ncx (L2.CX P w) P w K mg base N F f A outer s H E) [(u, PySem.W.kxs_mw "ValueError.__init__" a)] (startF N (.ref a :: rw0) [some (.ref C)]) H { s with heap := h1.push (PySem.W.kxs_mw "ValueError.__init__" a), toks := s.toks + (ps.zip us).length + 1 } :=
    I2.pins_of fun p hp => by
      obtain rfl : p = (u, PySem.W.kxs_mw "ValueError.__init__" a) := by simpa using hp
      exact ⟨hu, fp.1, fp.2.1, fp.2.2.1, fun v z => by cases z⟩
  have hst : starEach (e :: es) (envF F f s.heap.objs.size) = (false, eval e (envF F f s.heap.objs.size)) :: starEach es (envF F f s.heap.objs.size) := he _
  refine PySem.W.kxs_callWith (i := "ValueError.__init__") (x := a) (by rw [hst]; show (false || (backTo p3 (starEach es _)).any (·.1)) = false; rw [hpl]; rfl) ?_
  have conv : ∀ (Q : Args → Shared → Prop) (E' : Value → Shared → Prop) (s' : Shared), wpAny (model P w) (A.deeper (envF F f s.heap.objs.size)) (spliced (backTo p3 (starEach (e :: es) (envF F f s.heap.objs.size)))) (fun vs s'' => Q ⟨vs, []⟩ s'') E' s' →
      wpAny (model P w) (A.deeper (envF F f s.heap.objs.size)) (evalArgs (.ref u) true (backTo p3 (starEach (e :: es) (envF F f s.heap.objs.size))) []) Q E' s' := fun Q E' s' h => by
    rw [hst] at h ⊢
    exact PySem.Calls.evalArgs_plain h
  refine conv _ _ _ ?_
  refine wpAny_mono (haP.run p3 [(u, PySem.W.kxs_mw "ValueError.__init__" a)] _ _ _ _ I3 hsp) (fun vs' s3 h3 => ?_) fun _ _ z => z
  obtain ⟨ws, H3, I4, r4, hz, ea3, hq⟩ := h3
  have hu3 : s3.heap.get? u = some (PySem.W.kxs_mw "ValueError.__init__" a) := (I4.pin (u, PySem.W.kxs_mw "ValueError.__init__" a) (by simp)).1
  refine ⟨hu3, ?_⟩
  have hlen : vs'.length ≤ sizeLine := by
    rw [← r4.length, sizeLine_eq]; omega
  refine mw_call T.oex I4 hu3 ea3 hlen fun s5 I5 => ?_
  have I6 : Inv (ncx (L2.CX P w) P w K mg base N F f A outer s H E) [] (startF N (.ref a :: rw0) [some (.ref C)]) H3 s5 := I5.pins_of fun p hp => absurd hp (by simp)
  refine PySem.wpAt_of_wpAny (wpAny_mono (hrP.run [] s5 _ _ _ I6 hq) (fun fl s6 hs => ?_) fun e s6 hs => hs)
  cases fl with
  | ret u =>
    obtain ⟨v, σ', H', J, rv, q⟩ := hs
    exact fin J rv q
  | next =>
    obtain ⟨σ', H', J, q⟩ := hs
    exact fin (v := V.non) J rfl q
  | brk =>
    obtain ⟨_, _, _, q⟩ := hs
    exact q.elim
  | cont =>
    obtain ⟨_, _, _, q⟩ := hs
    exact q.elim
end
end Tre
set_option maxHeartbeats 2000000
/-! TreF: an own exception's values under its fields. -/
namespace Tre
open PySem PySem.Spec PyProof.Rows L2 NdefX

/-- self.f = p, one behind another -/
def bStores (N : List Str) (slf : Str) : List Stmt → List (Str × Nat) → Bool
  | [], [] => true
  | .Assign [.Attribute (.Name s _) f _] (.Name p _) _ :: r, (g, i) :: l => decide (s = slf) && decide (f = g) && decide (N[i]? = some p) && (p == ("__debug__" : Str)) == false && (p == ("__classdict__" : Str)) == false && bStores N slf r l
  | _, _ => false
def bArgs (N : List Str) : List Expr → List Nat → Bool
  | [], [] => true
  | .Name p _ :: r, i :: l => decide (N[i]? = some p) && (p == ("__debug__" : Str)) == false && (p == ("__classdict__" : Str)) == false && bArgs N r l
  | _, _ => false
def tChain (K : PySem.W.Frag) : List (Str × Nat) → TS
  | [] => fun D σ H => D.nx σ H
  | (f, i) :: l => fun D σ H => tOst K f (tVar 0) (tVar i) { D with nx := fun σ' H' => tChain K l D σ' H' } σ H
def tVars : List Nat → TA
  | [] => tNil
  | i :: l => tCons (tVar i) (tVars l)
section
variable {X : Cx} {slf : Str}
theorem pss_stores (h0 : X.N[0]? = some slf) (hvis : ∀ (i : Nat) (x : Str), X.N[i]? = some x → Vis X.env.scope x) (hd : (slf == ("__debug__" : Str)) = false) (hcd : (slf == ("__classdict__" : Str)) = false) : ∀ {ss : List Stmt} {l : List (Str × Nat)}, bStores X.N slf ss l = true → PSs X ss (tChain X.K l)
  | [], [], _ => pss_nil
  | .Assign [.Attribute (.Name s p1) f p2] (.Name p p3) p4 :: r, (g, i) :: l, h => by
    unfold bStores at h
    simp only [Bool.and_eq_true, decide_eq_true_eq, beq_iff_eq] at h
    obtain ⟨⟨⟨⟨⟨e1, rfl⟩, h3⟩, h4⟩, h5⟩, h6⟩ := h
    have e1 := e1.symm
    subst e1
    exact pss_cons (ps_ost (pe_var h0 (hvis _ _ h0) hd hcd) (pe_var h3 (hvis _ _ h3) h4 h5) rfl) (pss_stores h0 hvis hd hcd h6)
theorem pa_args (hvis : ∀ (i : Nat) (x : Str), X.N[i]? = some x → Vis X.env.scope x) : ∀ {es : List Expr} {l : List Nat}, bArgs X.N es l = true → PA X es (tVars l)
  | [], [], _ => pa_nil
  | .Name p pp :: r, i :: l, h => by
    unfold bArgs at h
    simp only [Bool.and_eq_true, decide_eq_true_eq, beq_iff_eq] at h
    obtain ⟨⟨⟨h3, h4⟩, h5⟩, h6⟩ := h
    exact pa_cons (pe_var h3 (hvis _ _ h3) h4 h5) (pa_args hvis h6)
end
/-- the arguments are there -/
theorem vars_ok {σ : L2.St} {H : Hp} : ∀ {l : List Nat} {Q : List V → Hp → Prop}, (∀ i ∈ l, ∃ v, σ[i]? = some (some v)) → (∀ us, us.length = l.length → Q us H) → tVars l σ H Q
  | [], Q, _, q => q [] rfl
  | i :: l, Q, h, q => by
    obtain ⟨v, e⟩ := h i List.mem_cons_self
    exact ⟨v, e, vars_ok (fun j hj => h j (List.mem_cons_of_mem _ hj)) fun us hl => q (v :: us) (by simp [hl])⟩
/-- behind the first store -/
theorem chain_ok {K : PySem.W.Frag} {C a d : Addr} {σ : L2.St} {H1 : Hp} {D : Ends} (T : OexC K C) (h0 : σ[0]? = some (some (.ref a))) : ∀ {l : List (Str × Nat)} {vs : List V} {H2 : Hp} {fs : List (Str × V)},
    (∀ (n : Nat) (p : Str × Nat), l[n]? = some p → ∃ v, vs[n]? = some v ∧ σ[p.2]? = some (some v)) → vs.length = l.length → (∀ p ∈ l, PySem.W.findIn K (.ref C) p.1 = some none) → fs.length + l.length ≤ 900 →
    a ≠ d → (∀ b, b ≠ a → b ≠ d → H2 b = H1 b) → H2 a = some (exo a C (some d)) → H2 d = some (exd d fs) →
    (∀ H', (∀ b, b ≠ a → b ≠ d → H' b = H1 b) → H' a = some (exo a C (some d)) → H' d = some (exd d (((l.map (·.1)).zip vs).reverse ++ fs)) → D.nx σ H') → tChain K l D σ H2
  | [], vs, H2, fs, _, hv, _, _, _, h1, h2, h3, q => q H2 h1 h2 (by simpa using h3)
  | (f, i) :: l, vs, H2, fs, hs, hv, hn, hz, had, h1, h2, h3, q => by
    obtain ⟨v, ev, es⟩ := hs 0 (f, i) rfl
    match vs, ev, hv with
    | v' :: vs, ev, hv =>
      obtain rfl : v' = v := by simpa using ev
      refine ⟨v', es, .ref a, h0, a, C, rfl, T, hn _ List.mem_cons_self, .inr ⟨d, fs, h2, h3, by simp at hz; omega, ?_⟩⟩
      refine chain_ok T h0 (vs := vs) (fs := (f, v') :: fs) (fun n p hp => ?_) (by simpa using hv) (fun p hp => hn p (List.mem_cons_of_mem _ hp)) (by simp at hz ⊢; omega) had (fun b n1 n2 => by rw [upd_ne n2]; exact h1 b n1 n2) (by rw [upd_ne had]; exact h2) upd_same fun H' q1 q2 q3 => q H' q1 q2 ?_
      · obtain ⟨u, e1, e2⟩ := hs (n + 1) p (by simpa using hp)
        exact ⟨u, by simpa using e1, e2⟩
      · rw [q3]
        simp
theorem chain_start {K : PySem.W.Frag} {C a : Addr} {σ : L2.St} {H1 : Hp} {D : Ends} (T : OexC K C) (h0 : σ[0]? = some (some (.ref a))) {l : List (Str × Nat)} {vs : List V}
    (hs : ∀ (n : Nat) (p : Str × Nat), l[n]? = some p → ∃ v, vs[n]? = some v ∧ σ[p.2]? = some (some v)) (hv : vs.length = l.length) (hn : ∀ p ∈ l, PySem.W.findIn K (.ref C) p.1 = some none) (hz : l.length ≤ 900) (hl : l ≠ []) (h1 : H1 a = none)
    (q : ∀ d H', H1 d = none → a ≠ d → (∀ b, b ≠ a → b ≠ d → H' b = H1 b) → H' a = some (exo a C (some d)) → H' d = some (exd d ((l.map (·.1)).zip vs).reverse) → D.nx σ H') : tChain K l D σ (upd H1 a (exo a C none)) := by
  match l, vs, hv, hl with
  | (f, i) :: l, v :: vs, hv, _ =>
    obtain ⟨v', ev, es⟩ := hs 0 (f, i) rfl
    obtain rfl : v = v' := by simpa using ev
    refine ⟨v, es, .ref a, h0, a, C, rfl, T, hn _ List.mem_cons_self, .inl ⟨upd_same, fun d hd hne => ?_⟩⟩
    rw [upd_ne hne] at hd
    refine chain_ok (d := d) (H1 := H1) T h0 (vs := vs) (fs := [(f, v)]) (fun n p hp => ?_) (by simpa using hv) (fun p hp => hn p (List.mem_cons_of_mem _ hp)) (by simp at hz ⊢; omega) (Ne.symm hne) (fun b n1 n2 => by rw [upd_ne n1, upd_ne n2, upd_ne n1]) upd_same (by rw [upd_ne hne, upd_same]) fun H' q1 q2 q3 => q d H' hd (Ne.symm hne) q1 q2 ?_
    · obtain ⟨u, e1, e2⟩ := hs (n + 1) p (by simpa using hp)
      exact ⟨u, by simpa using e1, e2⟩
    · rw [q3]
      simp
theorem zip_rev {α β : Type} : ∀ {xs : List α} {ys : List β}, xs.length = ys.length → (xs.zip ys).reverse = xs.reverse.zip ys.reverse
  | [], [], _ => rfl
  | x :: xs, y :: ys, h => by
    have h : xs.length = ys.length := by simpa using h
    rw [List.zip_cons_cons, List.reverse_cons, zip_rev h, List.reverse_cons, List.reverse_cons, List.zip_append (by simp [h])]
    rfl
/-- A CLASS WHOSE __init__ TELLS super() ITS ARGUMENTS, THEN STORES THEM -/
theorem xc_of {C0 : Cf} {X : Cx} {W : WX} {c : Nat} {x : Str} {Cc f cc : Addr} {F : NF} {slf : Str} {N ps : List Str} {names : List Str} {e0 : Expr} {es0 : List Expr} {rest : List Stmt} {p0 p1 p2 p3 p4 : Pos} {l : List (Str × Nat)} {la : List Nat}
    (T : SupK X.K X.prog Cc f F cc slf ps) (S : NScope N ps ["__class__"] F.scope) (hbody : F.body = .Expr (.Call (.Attribute (.Call (.Name "super" p0) [] [] p1) "__init__" p2) (e0 :: es0) [] p3) p4 :: rest)
    (hst : (e0 :: es0).all (fun e => !isStar e) = true) (hcall : ∃ pl : Addr → Sem Bool, ∀ L, eval (.Call (.Attribute (.Call (.Name "super" p0) [] [] p1) "__init__" p2) (e0 :: es0) [] p3) (envF F f L) = (do
      let ov ← attributeBase (.Call (.Name "super" p0) [] [] p1) "__init__" (envF F f L) (eval (.Call (.Name "super" p0) [] [] p1) (envF F f L))
      standAt p2.atName
      let (g, first) ← holding [ov] (getMethod ov "__init__" (pl L))
      callWith p3 g first (backTo p3 (starEach (e0 :: es0) (envF F f L))) []))
    (hargs : bArgs N (e0 :: es0) la = true) (hsto : bStores N slf rest l = true) (hl : l = (names.zip (List.range names.length)).map fun p => (p.1, p.2 + 1)) (hpn : ps.length = names.length + 1) (hla : ∀ i ∈ la, i < ps.length) (hla2 : la.length ≤ 1000) (hne : names ≠ []) (hz : names.length ≤ 900)
    (h0 : N[0]? = some slf) (hvis : ∀ (i : Nat) (y : Str), N[i]? = some y → Vis F.scope y) (hd : (slf == ("__debug__" : Str)) = false) (hcd : (slf == ("__classdict__" : Str)) = false)
    (hno : ∀ p ∈ l, PySem.W.findIn X.K (.ref Cc) p.1 = some none) (hX : C0.Xn c = some (Cc, names.reverse)) (gm : X.mg x = some (.ref Cc)) (hdb : (x == ("__debug__" : Str)) = false)
    (iC : PySem.W.findIn X.K (.ref Cc) "__init__" = some (some (.ref f))) (tI : PySem.W.typeIn X.K (.ref f) = some (.type "function"))
    (hbd : ∀ (doc pm ct : Value), Binds X.K (F.fd doc pm ct) ps []) (hcalm : X.calm = true) (hr : Room 3 X.A) (tk : Takes X W) :
    XcOk C0 X c x names.length := by
  obtain ⟨oc, od, doc, pm, ct, osl, lk⟩ := T.lk
  obtain ⟨pl, hcall⟩ := hcall
  refine ⟨Cc, names.reverse, hX, List.length_reverse, fun z => absurd (List.eq_nil_of_length_eq_zero z) hne, fun ta e es p pos hg ha hlen hse hpl => ?_⟩
  have h1 : isStar e0 = false := by
    simp only [List.all_cons, Bool.and_eq_true, Bool.not_eq_true'] at hst
    exact hst.1
  have h2 : es0.all (fun e => !isStar e) = true := by
    simp only [List.all_cons, Bool.and_eq_true] at hst
    exact hst.2
  have F1 := init_ok (P := X.prog) (w := X.w) (K := X.K) (mg := X.mg) (base := X.base) (k := 1) (ta := tVars la) (tr := tChain X.K l) T S hbody (fun env => star_cons h1) (fun env => plain_of h2)
    (fun A outer s H E => pa_args (X := ncx (L2.CX X.prog X.w) X.prog X.w X.K X.mg X.base N F f A outer s H E) hvis hargs)
    (fun A outer s H E => pss_stores (X := ncx (L2.CX X.prog X.w) X.prog X.w X.K X.mg X.base N F f A outer s H E) h0 hvis hd hcd hsto) pl hcall lk
  have ha' : PA X (e :: es) (fun σ H Q => ∃ Q0, ta σ H Q0 ∧ ∀ vs H1, Q0 vs H1 → Q vs H1) := ⟨fun pos pins s σ H Q I ⟨Q0, h, m⟩ => thn (ha.run pos pins s σ H Q0 I h) fun us s1 ⟨vs, H1, I1, r, q⟩ => ⟨vs, H1, I1, r, m _ _ q⟩⟩
  have key := pmk_oex (X := X) (x := x) (e := e) (es := es) (p := p) (pos := pos) T.oex iC tI F1 hr (hbd doc pm ct) .nil (fun pins σ H s ee s' I z => passes_call tk (fun _ _ _ _ z => z.elim) pins σ H s ee s' I z) hg gm ha' hdb hse hpl
  intro pins s σ H Q I h
  refine key pins s σ H Q I ⟨_, h, fun vs H1 hq => ?_⟩
  obtain ⟨hv, hv2, hq⟩ := hq
  refine ⟨hv2, fun a hna => ?_⟩
  have hlen2 : (V.ref a :: (vs ++ [])).length = ps.length := by rw [List.append_nil, List.length_cons, hv, hpn]
  have hst0 : ∀ i v, (V.ref a :: vs)[i]? = some v → (startF N (V.ref a :: (vs ++ [])) [some (.ref Cc)])[i]? = some (some v) := fun i v hi => by
    have hlt : i < (V.ref a :: vs).length := (List.getElem?_eq_some_iff.mp hi).1
    unfold startF
    rw [List.append_nil, List.getElem?_append_left (by rw [List.length_map]; exact hlt), List.getElem?_map, hi]
    rfl
  have hll : l.length = names.length := by rw [hl, List.length_map, List.length_zip, List.length_range, Nat.min_self]
  have hlm : l.map (·.1) = names := by
    rw [hl, List.map_map]
    have : ((fun p : Str × Nat => p.1) ∘ fun p : Str × Nat => (p.1, p.2 + 1)) = Prod.fst := rfl
    rw [this, List.map_fst_zip]
    rw [List.length_range]; exact Nat.le_refl _
  refine ⟨a, vs ++ [], hlen2, rfl, upd_same, vars_ok (fun i hi => ?_) fun us hus => ⟨by omega, upd_same, ?_⟩⟩
  · have hi2 : i < (V.ref a :: vs).length := by
      have := hla i hi
      rw [List.append_nil] at hlen2
      omega
    exact ⟨_, hst0 i _ (List.getElem?_eq_getElem hi2)⟩
  · refine chain_start (vs := vs) T.oex (hst0 0 _ rfl) (fun n p hp => ?_) (by rw [hll, hv]) hno (by omega) (fun z => hne (by rw [← hlm, z]; rfl)) hna fun d H' hd1 had k1 k2 k3 => ?_
    · have hn : n < names.length := by rw [← hll]; exact (List.getElem?_eq_some_iff.mp hp).1
      rw [hl, List.getElem?_map] at hp
      obtain ⟨q, hq1, hq2⟩ := Option.map_eq_some_iff.mp hp
      have hq3 := List.getElem?_zip_eq_some.mp hq1
      have hq4 : q.2 = n := by
        have := hq3.2
        rw [List.getElem?_range hn] at this
        exact (Option.some.inj this).symm
      have hnv : n < vs.length := by omega
      refine ⟨vs[n], List.getElem?_eq_getElem hnv, ?_⟩
      rw [← hq2]
      show (startF N _ _)[q.2 + 1]? = _
      rw [hq4]
      exact hst0 (n + 1) _ (by rw [List.getElem?_cons_succ]; exact List.getElem?_eq_getElem hnv)
    · refine ⟨rfl, d, _, k2, k3, hd1, ?_⟩
      have hz2 : ((l.map (·.1)).zip vs).reverse = names.reverse.zip vs.reverse := by
        rw [hlm]
        exact zip_rev (by rw [hv])
      rw [hz2]
      have hH : upd (del H' a) d (.xd (names.reverse.zip vs.reverse)) = upd H1 d (.xd (names.reverse.zip vs.reverse)) := by
        funext b
        by_cases b1 : b = d
        · rw [b1, upd_same, upd_same]
        · rw [upd_ne b1, upd_ne b1]
          by_cases b2 : b = a
          · rw [b2, del_same, hna]
          · rw [del_ne b2]; exact k1 b b2 b1
      rw [hH]
      exact hq d hd1
end Tre
set_option maxHeartbeats 2000000
/-! TreS: _law_source, the same text in all laws. -/
namespace Tre
open PySem PySem.Spec PyProof.Rows L2

/-- the def's text, its places left open -/
def srcBody (cs : Scope) (p : Nat → Pos) : List Stmt :=
  [.Assign [.Name "mixed" (p 0)] (.Constant (.int 11) 0 (p 1)) (p 2),
   .For (.Name "cell" (p 3)) (.Name "script" (p 4)) [.Assign [.Name "mixed" (p 5)] (.BinOp (.Call (.Name "int" (p 6)) [.BinOp (.BinOp (.BinOp (.Name "mixed" (p 7)) .Mult (.Constant (.int 69069) 0 (p 8)) (p 9)) .Add (.BinOp (.Name "cell" (p 10)) .Mult (.Constant (.int 31) 0 (p 11)) (p 12)) (p 13)) .Add (.Constant (.int 5) 0 (p 14)) (p 15)] [] (p 16)) .Mod (.Constant (.int 2147483629) 0 (p 17)) (p 18)) (p 19)] [] (p 20),
   .Return (some (.Dict [some (.Constant (.str "cells") 0 (p 21)), some (.Constant (.str "left") 0 (p 22)), some (.Constant (.str "mixed") 0 (p 23)), some (.Constant (.str "turn") 0 (p 24))]
     [.Subscript (.ListComp (.Call (.Name "abs" (p 25)) [.Name "cell" (p 26)] [] (p 27)) [⟨.Name "cell" (p 28), .Name "script" (p 29), [], 0⟩] cs (p 30)) (.Slice none none (some (.UnaryOp .USub (.Constant (.int 1) 0 (p 31)) (p 32))) (p 33)) (p 34), .Constant (.int 1) 0 (p 35), .Name "mixed" (p 36), .Constant (.int 0) 0 (p 37)] (p 38))) (p 39)]
def srcN : List Str := ["script", "mixed", "cell"]
/-- what it gives -/
def absL (ns : List Int) : List Int := (ns.map fun i => if i < 0 then -i else i).reverse
def spSrc (K : PySem.W.Frag) : Sp := fun vs H Q _ => ∃ (a : Addr) (ns : List Int), vs = [.ref a] ∧ SqL K H a (ns.map V.int) ∧ ns.length ≤ sizeLine ∧
  ∀ (d c : Addr) (m : Int) (H' : Hp), d ≠ c → H d = none → H c = none → (∀ b o, H b = some o → H' b = some o) → H' d = some (.dK [(.inr "cells", .ref c), (.inr "left", .int 1), (.inr "mixed", .int m), (.inr "turn", .int 0)]) → H' c = some (.lst ((absL ns).map V.int)) → Q (.ref d) H'
def tMix : TE := tOp (rI (fun _ j => 0 < j) fun i j => .int (i % j)) (tCB (fun xs H Q => (∃ i, xs = [.int i] ∧ Q (.int i) H) ∨ ∃ k, xs = [.bl k] ∧ Q (.int (if k then 1 else 0)) H)
  (tCons (tOp (rI0 fun i j => .int (i + j)) (tOp (rI0 fun i j => .int (i + j)) (tOp (rI CMul fun i j => .int (i * j)) (tVar 1) (tC (.int 69069))) (tOp (rI CMul fun i j => .int (i * j)) (tVar 2) (tC (.int 31)))) (tC (.int 5))) tNil)) (tC (.int 2147483629))
def tCells (K : PySem.W.Frag) : TE := tRevL K (tLc (iList K (tVar 0)) (gName 2) tYes (tCB (fun xs H Q => ∃ i, xs = [.int i] ∧ Q (.int (if i < 0 then -i else i)) H) (tCons (tVar 2) tNil)) [2])
def tSrc (K : PySem.W.Frag) : TS := tSeq (tAsg (tC (.int 11)) (gName 1)) (tSeq (tFor (iList K (tVar 0)) (gName 2) (tAsg tMix (gName 1)))
  (tRet (tDisp [(tC (.str "cells"), tCells K), (tC (.str "left"), tC (.int 1)), (tC (.str "mixed"), tVar 1), (tC (.str "turn"), tC (.int 0))])))
section
variable {X : Cx} {cs : Scope} {p : Nat → Pos}
theorem src_walk (hN : X.N = srcN) (hs : X.env.scope.names.lookup ("script" : Str) = some .local) (hm : X.env.scope.names.lookup ("mixed" : Str) = some .local) (hc : X.env.scope.names.lookup ("cell" : Str) = some .local) (hi : Gl X "int") (ha : cs.names.lookup ("abs" : Str) = some .globalImplicit) (hcc : cs.names.lookup ("cell" : Str) = some .local)
    (hfn : ∀ x, X.fn x = true) (hcalm : X.calm = true) (hp : PassesOwn (model X.prog X.w) X.A X.env X.xe) (mi : X.mg "int" = none) (ma : X.mg "abs" = none) (ok : BlkOk X.N X.env.scope cs [("cell", 2)]) : PSs X (srcBody cs p) (tSrc X.K) := by
  have nd : X.N.Nodup := by rw [hN]; decide +kernel
  have n0 : X.N[0]? = some ("script" : Str) := by rw [hN]; rfl
  have n1 : X.N[1]? = some ("mixed" : Str) := by rw [hN]; rfl
  have n2 : X.N[2]? = some ("cell" : Str) := by rw [hN]; rfl
  have b1 : bootBuiltins ("int" : Str) = some (.type "int") := by decide +kernel
  have b2 : bootBuiltins ("abs" : Str) = some (.builtin "abs") := by decide +kernel
  refine pss_cons (ps_asg pe_int (pg_name nd n1 (.inl hm) (.inl (hfn _)))) (pss_cons ?_ (pss_one (ps_ret (pe_disp (pps_cons pe_str ?_ (pps_cons pe_str pe_int (pps_cons pe_str (pe_var n1 (.inl hm)) (pps_cons pe_str pe_int pps_nil)))) rfl rfl (by simp) (by show 4 ≤ 15; decide)))))
  · refine ps_for hp hcalm (pi_list (pe_var n0 (.inl hs))) (pg_name nd n2 (.inl hc) (.inl (hfn _))) (pss_one (ps_asg (pe_op op_mod (pe_callTy call_int1 hi mi b1 (pa_cons (pe_op op_add (pe_op op_add (pe_op op_mul (pe_var n1 (.inl hm)) pe_int) (pe_op op_mul (pe_var n2 (.inl hc)) pe_int)) pe_int) pa_nil)) pe_int) (pg_name nd n1 (.inl hm) (.inl (hfn _)))))
  · refine pe_revL (pe_lc hcalm nd (pi_list (pe_var n0 (.inl hs))) ok (fun s H C cl fp => pg_name nd n2 (.inl ?_) (.inr ?_)) (fun s H C cl fp => pts_nil) fun s H C cl fp => pe_callB call_abs ?_ ma b2 (pa_cons (pe_var n2 (.inl ?_)) pa_nil))
    · exact lookup_relS_keep (sc := X.env.scope) (by decide) hcc
    · exact lookup_relS_keep (sc := X.env.scope) (by decide) hcc
    · exact lookup_relS_keep (sc := X.env.scope) (by decide) ha
    · exact lookup_relS_keep (sc := X.env.scope) (by decide) hcc
end

theorem Same.sqL {K : PySem.W.Frag} {H H' : Hp} {a : Addr} {xs : List V} (e : Same H H') (h : SqL K H a xs) : SqL K H' a xs := by
  rcases h with (h | ⟨o, h⟩) | h
  · exact .inl (.inl (e _ _ h))
  · exact .inl (.inr ⟨o, e _ _ h⟩)
  · exact .inr h
theorem merge4 {a b c d : V} : mergeK [] [((.inr "cells" : Key), a), (.inr "left", b), (.inr "mixed", c), (.inr "turn", d)] = [(.inr "cells", a), (.inr "left", b), (.inr "mixed", c), (.inr "turn", d)] := rfl
theorem absV (ns : List Int) : ((ns.map fun i => V.int (if i < 0 then -i else i)).reverse) = (absL ns).map V.int := by
  unfold absL
  rw [List.map_reverse, List.map_map]
  rfl
theorem src_pure {K : PySem.W.Frag} {vs : List V} {H : Hp} {Q : VK} {E : XK} (h : spSrc K vs H Q E) : tSrc K { nx := fun _ H' => Q .non H', rt := Q } (L2.start srcN vs) H := by
  obtain ⟨a, ns, rfl, hs, hl, hQ⟩ := h
  have lm : (ns.map V.int).length = ns.length := List.length_map _
  refine ⟨.ref a, rfl, a, rfl, ⟨_, hs⟩, ?_⟩
  refine for_list (xs := ns.map V.int) (fun i σ H' => H' = H ∧ ∃ (m : Int) (o : Option V), σ = [some (.ref a), some (.int m), o]) ⟨rfl, 11, none, rfl⟩ (fun i σ H' _ p => by rw [p.1]; exact hs) (fun i x σ H' hx p => ?_) fun σ H' p => ?_
  · obtain ⟨rfl, m, o, rfl⟩ := p
    rw [List.getElem?_map] at hx
    obtain ⟨c, _, rfl⟩ := Option.map_eq_some_iff.mp hx
    have k1 : CMul m 69069 := .inr (by omega)
    have k2 : CMul c 31 := .inr (by omega)
    exact ⟨_, rfl, _, _, rfl, rfl, k1, _, rfl, _, _, rfl, rfl, k2, _, _, rfl, rfl, _, _, rfl, rfl, .inl ⟨_, rfl, _, _, rfl, rfl, by omega, rfl, _, some (.int c), rfl⟩⟩
  · obtain ⟨rfl, m, o, rfl⟩ := p
    intro d hd
    refine ⟨.ref a, rfl, a, rfl, ⟨_, Same.sqL (same_new hd) hs⟩, fun D hD => ?_⟩
    have hDd : D ≠ d := fun z => by rw [z, upd_same] at hD; cases hD
    have hD0 : H' D = none := by rw [upd_ne hDd] at hD; exact hD
    have sm : ∀ xs : List V, Same H' (upd (upd H' d (.dK [])) D (.lst xs)) := fun xs => (same_new hd).trans (same_new hD)
    refine lc_list (xs := ns.map V.int) (fun i H2 => H2 = upd (upd H' d (.dK [])) D (.lst ((ns.take i).map fun i => V.int (if i < 0 then -i else i)))) rfl (fun i H2 _ p => by rw [p]; exact Same.sqL (sm _) hs) (fun i x H2 hx p => ?_) fun H2 p => ?_
    · subst p
      rw [List.getElem?_map] at hx
      obtain ⟨c, hc, rfl⟩ := Option.map_eq_some_iff.mp hx
      refine ⟨rfl, .int c, rfl, c, rfl, _, upd_same, ?_, ?_⟩
      · rw [List.length_map, List.length_take]
        have := (List.getElem?_eq_some_iff.mp hc).1
        omega
      · rw [upd_upd, List.take_add_one, hc]
        simp
    · subst p
      rw [lm, List.take_length]
      refine ⟨D, _, rfl, .inl (.inl upd_same), fun p hp => ?_⟩
      rw [absV]
      have hpD : p ≠ D := fun z => by rw [z, upd_same] at hp; cases hp
      have hp1 : upd H' d (.dK []) p = none := by rw [upd_ne hpD] at hp; exact hp
      have hpd : p ≠ d := fun z => by rw [z, upd_same] at hp1; cases hp1
      have hp0 : H' p = none := by rw [upd_ne hpd] at hp1; exact hp1
      refine ⟨_, rfl, ?_, [(.inr "cells", .ref p), (.inr "left", .int 1), (.inr "mixed", .int m), (.inr "turn", .int 0)], rfl, by show 4 ≤ 15; decide, ?_⟩
      · rw [upd_ne (fun z => hpd z.symm), upd_ne (fun z => hDd z.symm), upd_same]
      · rw [merge4]
        refine hQ d p m _ (fun z => hpd z.symm) hd hp0 (fun b o e => ?_) upd_same ?_
        · have e1 := sm ((ns.map fun i => V.int (if i < 0 then -i else i))) b o e
          have e2 := same_new (o := .lst ((absL ns).map V.int)) hp b o e1
          rw [upd_ne (ne_of_none e hd)]
          exact e2
        · rw [upd_ne hpd, upd_same]
end Tre
set_option maxHeartbeats 2000000
/-! TreL: the law's def: its source, then the rest by its tree. -/
namespace Tre
open PySem PySem.Spec PyProof.Rows L2 LamX

theorem blk_of {N : List Str} {sc scope : Scope} {ws : List Nat} (h : bBlk N sc scope ws = true) : BlkOk N sc scope (ownsOf N ws) := by
  unfold bBlk at h
  simp only [Bool.and_eq_true, decide_eq_true_eq, List.all_eq_true, Bool.or_eq_true, Bool.not_eq_true', decide_eq_false_iff_not, List.any_eq_true, Bool.or_eq_false_iff] at h
  obtain ⟨⟨⟨⟨h1, h2⟩, h3⟩, h4⟩, h5⟩ := h
  refine ⟨h1, fun y hy => h2 y hy, fun p hp => h3 p hp, fun y hy e => ?_, fun y hy e => ?_⟩
  · rcases h4 y hy with (z | z) | z
    · exact absurd e z
    · exact .inl z
    · exact .inr z
  · rcases h5 y hy with (z | z) | z
    · rcases e with e | e
      · exact absurd e z.1
      · exact absurd e z.2
    · obtain ⟨p, hp, e⟩ := z
      exact .inl (List.mem_map.mpr ⟨p, hp, e⟩)
    · exact .inr fun hm => z _ hm rfl
/-- what is looked at of the two scopes of _law_source -/
def srcB (sc cs : Scope) : Bool := decide (sc.names.lookup ("script" : Str) = some .local) && decide (sc.names.lookup ("mixed" : Str) = some .local) && decide (sc.names.lookup ("cell" : Str) = some .local) && decide (sc.names.lookup ("int" : Str) = some .globalImplicit)
  && decide (cs.names.lookup ("abs" : Str) = some .globalImplicit) && decide (cs.names.lookup ("cell" : Str) = some .local) && bBlk srcN sc cs [2]
section
variable {prog : Program} {w : World} {K : PySem.W.Frag} {mg : Str → Option Value} {base : Heap}
theorem src_ok {k : Nat} {qual : Str} {params : Arguments} {scope cs : Scope} {p : Nat → Pos} {f : Addr} {fd : FuncData} (F : FunD K "_law_source" qual params (srcBody cs p) scope [] [] f fd) (fs : FnScope srcN ["script"] scope) (hb : srcB scope cs = true)
    (mi : mg "int" = none) (ma : mg "abs" = none) : FnG prog w K mg base (L2.CX prog w) (k + 1) f fd ["script"] (spSrc K) := by
  obtain ⟨oc, od, dV, kV, doc, pm, an, cdv, ct, osl, rfl, lk, hcd, _, _⟩ := F.ex
  unfold srcB at hb
  simp only [Bool.and_eq_true, decide_eq_true_eq] at hb
  obtain ⟨⟨⟨⟨⟨⟨h1, h2⟩, h3⟩, h4⟩, h5⟩, h6⟩, h7⟩ := hb
  refine fnG_of lk hcd fs (fun vs H Q E h => ?_) fun A outer s H vs Q E hA hr h => ⟨tSrc K, ?_, src_pure h⟩
  · obtain ⟨a, ns, rfl, _⟩ := h
    rfl
  · exact src_walk (X := cxOf (L2.CX prog w) prog w K mg base srcN qual scope f cdv A outer s H E) rfl h1 h2 h3 h4 h5 h6 (fun _ => rfl) rfl (passes_of rfl) mi ma (blk_of h7)

def spLaw (ts : List (Addr × Str)) (K : PySem.W.Frag) : Sp := fun vs H Q _ => ∃ (a : Addr) (ns : List Int), vs = [.ref a] ∧ SqL K H a (ns.map V.int) ∧ ns.length ≤ sizeLine ∧ Tabs ts H ∧ ∀ H', Q (.bl true) H'
def lawE (n : Nat) : Env := .e :: .src :: List.replicate (n - 2) .e
theorem rl_law {S : SA} {H : Hp} {s : Src} {n : Nat} {a : Addr} (hn : 2 ≤ n) {N : List Str} (hN : N.length = n) (q : SrcR S H s) : Rl K S S.Out H S.Out (lawE n) ((L2.start N [.ref a]).set 1 (some (.ref S.a1))) H where
  len := by
    unfold lawE L2.start
    simp
    omega
  so := fun _ h => h
  sub := fun _ h => h
  dom := fun _ h => q.there h
  dom0 := fun _ h => q.there h
  same := Ex.refl _ _
  slots := fun i x o h1 h2 => by
    unfold lawE at h1
    match i with
    | 0 => cases h1; trivial
    | 1 =>
      cases h1
      have hl : 1 < (L2.start N [V.ref a]).length := by
        unfold L2.start
        simp
        omega
      rw [List.getElem?_set_self hl] at h2
      cases h2
      rfl
    | i + 2 =>
      have h1 : (List.replicate (n - 2) Slot.e)[i]? = some x := h1
      rw [(List.mem_replicate.mp (List.mem_of_getElem? h1)).2]
      trivial
  inj := fun i j d d' b h1 _ _ _ => by
    unfold lawE at h1
    match i with
    | 0 => cases h1
    | 1 => cases h1
    | i + 2 =>
      have h1 : (List.replicate (n - 2) Slot.e)[i]? = some (.d true d) := h1
      have := (List.mem_replicate.mp (List.mem_of_getElem? h1)).2
      cases this
section
variable {P : List Fn} {G : Nat → Option D} {fns cns : List Str} {xcs : List (Str × Nat)} {ts : List (Addr × Str)} {Xn : XT}
/-- THE LAW'S DEF -/
theorem law_ok {kP : Nat} {tds : List (Str × Nat × Option Str × Str)} {N : List Str} {bL : T} {qual : Str} {params : Arguments} {scope : Scope} {rest : List Stmt} {p0 p1 p2 p3 p4 : Pos} {f : Addr} {fd : FuncData} (p : ProgOk P G fns cns xcs ts Xn prog w K mg base)
    (F : FunD K "law" qual params (.Assign [.Name "source" p0] (.Call (.Name "_law_source" p1) [.Name "script" p2] [] p3) p4 :: rest) scope [] [] f fd) (fs : FnScope N ["script"] scope) (n0 : N[0]? = some ("script" : Str)) (n1 : N[1]? = some ("source" : Str))
    (hs : scope.names.lookup ("source" : Str) = some .local ∨ scope.names.lookup ("source" : Str) = some .cell) (hg : scope.names.lookup ("_law_source" : Str) = some .globalImplicit)
    (Sg : ∃ (a : Addr) (fd : FuncData), mg "_law_source" = some (.ref a) ∧ PySem.W.keepIn K (.ref a) = true ∧ Binds K fd ["script"] [] ∧ ∀ k, FnG prog w K mg base (L2.CX prog w) (k + 1) a fd ["script"] (spSrc K))
    (hc : chkSs N fns cns tds xcs scope bL rest = true)
    (td : TdAll G xcs ts Xn tds prog w K mg base N "law" qual params (.Assign [.Name "source" p0] (.Call (.Name "_law_source" p1) [.Name "script" p2] [] p3) p4 :: rest) scope f)
    (plain : ∀ s : Src, ∃ o s', evS (Phi P G kP) G bL (lawE N.length) s = .ok (.ret o (.bool true)) s') :
    FnG prog w K mg base (L2.CX prog w) (3 * kP + 6) f fd ["script"] (spLaw ts K) := by
  obtain ⟨oc, od, dV, kV, doc, pm, an, cdv, ct, osl, rfl, lk, hcd, _, _⟩ := F.ex
  refine fnG_of lk hcd fs (fun vs H Q E h => ?_) fun A outer s H vs Q E hA hr h => ?_
  · obtain ⟨a, ns, rfl, _⟩ := h
    rfl
  obtain ⟨aS, fdS, hm, hk, hbS, FS⟩ := Sg
  let X := cxOf (L2.CX prog w) prog w K mg base N qual scope f cdv A outer s H E
  let W : WX := fun cls d _ H => E cls d H
  have tk : Takes X W := takes_of rfl rfl rfl rfl
  have hr3 : Room (3 * kP + 3) X.A := hr.mono (by omega)
  have sx : SX ⟨Phi P G kP, G, Xn, xcs, ts, tds⟩ (3 * kP + 3) fns cns X W :=
    ⟨⟨fs.nd, rfl, hA, hr3, p.blt, prog_ok p kP, p.cn⟩, tk, passes_of rfl, fun _ => rfl, fs.kind, fun c x ar h => p.xc c x ar h (Phi P G kP) X W rfl rfl rfl rfl rfl rfl (hr.mono (by omega)) tk⟩
  have hv : Vis scope ("script" : Str) := (fs.par _ (by simp)).imp id fun z => .inl z
  have fst : PS X (.Assign [.Name "source" p0] (.Call (.Name "_law_source" p1) [.Name "script" p2] [] p3) p4) (tAsg (fun σ H Q => tCons (tVar 0) tNil σ H fun vs H1 => spSrc K vs H1 Q (WE W σ)) (gName 1)) :=
    ps_asg (pe_callG (X := X) (E := WE W) (FS (3 * kP + 4)) hA hr hg hm hk hbS (fun σ => passAt tk σ) (pa_cons (pe_var n0 hv) pa_nil) rfl rfl rfl) (pg_name fs.nd n1 hs (.inl rfl))
  have rst : PSs X rest (fun Nn σ H => ∃ B : Bx, B.S.ts = ts ∧ tS ⟨Phi P G kP, G, Xn, xcs, ts, tds⟩ K B W bL Nn σ H) := ⟨fun pins s' σ H' Nn I ⟨B, hB, h⟩ =>
    (okSs (C := ⟨Phi P G kP, G, Xn, xcs, ts, tds⟩) (k := 3 * kP + 3) (fns := fns) (cns := cns) (N := N) (X := X) (B := B) (W := W) (sc := scope) ⟨hB, td (Phi P G kP) (3 * kP + 3) A outer s H E cdv ⟨oc, od, dV, kV, doc, pm, an, ct, osl, lk⟩ hcd hA hr, sx, rfl, rfl⟩ bL rest hc).run pins s' σ H' Nn I h⟩
  refine ⟨_, pss_cons fst rst, ?_⟩
  obtain ⟨a, ns, rfl, hsq, hl, hT, hQ⟩ := h
  refine ⟨.ref a, rfl, a, ns, rfl, hsq, hl, fun d c m H' hdc hd hcn hk2 e1 e2 => ?_⟩
  have q : SrcR ⟨d, c, ts⟩ H' ⟨absL ns, 1, m, 0⟩ := ⟨hdc, e1, e2, hT.ext hk2⟩
  have hn : 2 ≤ N.length := by
    have := (List.getElem?_eq_some_iff.mp n1).1
    omega
  refine ⟨⟨⟨d, c, ts⟩, SA.Out ⟨d, c, ts⟩, H'⟩, rfl, lawE N.length, ⟨absL ns, 1, m, 0⟩, SA.Out ⟨d, c, ts⟩, rl_law (K := K) (a := a) hn rfl q, q, ?_⟩
  obtain ⟨o, s', e⟩ := plain ⟨absL ns, 1, m, 0⟩
  have e : evS (Phi P G kP) G bL (lawE N.length) ⟨absL ns, 1, m, 0⟩ = _ := e
  show RQ (evS (Phi P G kP) G bL (lawE N.length) ⟨absL ns, 1, m, 0⟩) _ _
  rw [e]
  intro v H2 _ _ hv2
  obtain rfl := hv2.bool
  exact hQ H2
end
end
end Tre
set_option maxHeartbeats 2000000
/-! TreT: what is told of the def that catches. -/
namespace Tre
open PySem PySem.Spec PyProof.Rows L2 LamX

/-- try: return (okS, a()) / except e as n: return (badS, n.fld) -/
def raisedBody (a e n okS badS fld : Str) (j j2 k1 k2 : Nat) (p : Nat → Pos) : List Stmt :=
  [.Try [.Return (some (.Tuple [.Constant (.str okS) j (p 1), .Call (.Name a (p 2)) [] [] (p 3)] k1 (p 4))) (p 5)] [.ExceptHandler (some (.Name e (p 6))) (some n) [.Return (some (.Tuple [.Constant (.str badS) j2 (p 7), .Attribute (.Name n (p 8)) fld (p 9)] k2 (p 10))) (p 11)] (p 12)] [] [] (p 13)]
theorem noPar_eq {a : Arguments} (h : noPar a = true) : a = ⟨[], [], none, [], [], none, []⟩ := by
  obtain ⟨p1, p2, p3, p4, p5, p6, p7⟩ := a
  unfold noPar at h
  simp only [Bool.and_eq_true, List.isEmpty_iff, Option.isNone_iff_eq_none] at h
  obtain ⟨⟨⟨⟨⟨⟨rfl, rfl⟩, rfl⟩, rfl⟩, rfl⟩, rfl⟩, rfl⟩ := h
  rfl
section
variable {C : Cf} {X : Cx} {k c : Nat} {x okS badS a e n fld : Str} {j j2 k1 k2 : Nat} {p : Nat → Pos} {Ng : List Str} {sg : Scope} {pg : Arguments} {g CS cA P : Addr} {fdg : FuncData}
theorem td_of (hA : X.A.guards = some []) (hr : Room (k + 2) X.A) (hm : X.mg x = some (.ref g)) (F : FunD X.K x x pg (raisedBody a e n okS badS fld j j2 k1 k2 p) sg [] [] g fdg) (hb : Binds X.K fdg [a] []) (Sg : FnScope Ng [a] sg)
    (hNg : Ng = [a, n]) (hln : sg.names.lookup n = some .local) (hva : sg.names.lookup a = some .local) (hge : sg.names.lookup e = some .globalImplicit) (hme : X.mg e = some (.ref CS)) (T : XfC X.K CS) (hno : PySem.W.findIn X.K (.ref CS) fld = some none)
    (hex : PySem.W.exmOne X.K (.ref CS) (.ref CS) = some true) (hXn : C.Xn c = some (CS, [fld])) (TB : TabB X.base X.mg cA P) (hcode : X.env.code = .ref cA) (hmT : (P, X.env.qual ++ "<lambda>") ∈ C.ts) (hu : ∀ q ∈ C.ts, q.1 = P → q.2 = X.env.qual ++ "<lambda>")
    (hx : (x == ("__debug__" : Str)) = false) (ha1 : (a == ("__debug__" : Str)) = false) (ha2 : (a == ("__classdict__" : Str)) = false) (hn1 : (n == ("__debug__" : Str)) = false) (hn2 : (n == ("__classdict__" : Str)) = false) (he : (e == ("__debug__" : Str)) = false) :
    TdOk C X k x c (some okS) badS := by
  obtain ⟨oc, od, dV, kV, doc, pm, an, cdv, ct, osl, rfl, lk, hcd, _, _⟩ := F.ex
  subst hNg
  refine ⟨P, CS, fld, ⟨_, hmT⟩, hXn, hex, fun params body scope lpos p1 pos t hgx L hpar hbody => ?_⟩
  obtain rfl := noPar_eq hpar
  refine pe_lamG (Ng := [a, n]) (a := a) (W := W0) takes0 hA hgx hm F.kp lk hcd hb Sg rfl (.inl hva) ?_ TB hcode hmT hu hr L rfl (fun _ _ _ _ _ => rfl) hbody hx ha1 ha2
  exact as_gives Sg.nd rfl hln hge hme he hn1 hn2 (fun _ => rfl) (fun _ => by show 1 < 2; decide) T hno
/-- try: return a() / except e: return txt -/
def triedBody (a e txt : Str) (j : Nat) (p : Nat → Pos) : List Stmt :=
  [.Try [.Return (some (.Call (.Name a (p 1)) [] [] (p 2))) (p 3)] [.ExceptHandler (some (.Name e (p 4))) none [.Return (some (.Constant (.str txt) j (p 5))) (p 6)] (p 7)] [] [] (p 8)]
theorem td_of0 {txt : Str} (hA : X.A.guards = some []) (hr : Room (k + 2) X.A) (hm : X.mg x = some (.ref g)) (F : FunD X.K x x pg (triedBody a e txt j p) sg [] [] g fdg) (hb : Binds X.K fdg [a] []) (Sg : FnScope Ng [a] sg)
    (hNg : Ng = [a]) (hva : sg.names.lookup a = some .local) (hge : sg.names.lookup e = some .globalImplicit) (hme : X.mg e = some (.ref CS))
    (hex : PySem.W.exmOne X.K (.ref CS) (.ref CS) = some true) (hXn : C.Xn c = some (CS, [])) (TB : TabB X.base X.mg cA P) (hcode : X.env.code = .ref cA) (hmT : (P, X.env.qual ++ "<lambda>") ∈ C.ts) (hu : ∀ q ∈ C.ts, q.1 = P → q.2 = X.env.qual ++ "<lambda>")
    (hx : (x == ("__debug__" : Str)) = false) (ha1 : (a == ("__debug__" : Str)) = false) (ha2 : (a == ("__classdict__" : Str)) = false) (he : (e == ("__debug__" : Str)) = false) :
    TdOk C X k x c none txt := by
  obtain ⟨oc, od, dV, kV, doc, pm, an, cdv, ct, osl, rfl, lk, hcd, _, _⟩ := F.ex
  subst hNg
  refine ⟨P, CS, ⟨_, hmT⟩, hXn, hex, fun params body scope lpos p1 pos t hgx L hpar hbody => ?_⟩
  obtain rfl := noPar_eq hpar
  refine pe_lamG (Ng := [a]) (a := a) (W := W0) takes0 hA hgx hm F.kp lk hcd hb Sg rfl (.inl hva) ?_ TB hcode hmT hu hr L rfl (fun _ _ _ _ _ => rfl) hbody hx ha1 ha2
  exact only_gives hge hme he (fun _ => rfl)
end
end Tre
set_option maxHeartbeats 2000000
/-! TreZ: the end of a law row, where no guard stands. -/
namespace Tre
open PySem PySem.Spec PyProof.Rows L2 LamX

open Classical in
/-- what is tracked at the call: the script (if it is no object of the module), the tables -/
noncomputable def endH (K : PySem.W.Frag) (a : Addr) (o : Obj) (xs : List V) (tb : List Addr) : Hp := fun b => if b = a ∧ K.lookup a = none then some (.frz o (.lst xs)) else if b ∈ tb then some (.tbl #[]) else none
section
variable {K : PySem.W.Frag} {a : Addr} {o : Obj} {xs : List V} {tb : List Addr}
theorem endH_cases {b : Addr} {u : HO} (e : endH K a o xs tb b = some u) : (b = a ∧ K.lookup a = none ∧ u = .frz o (.lst xs)) ∨ (b ∈ tb ∧ u = .tbl #[]) := by
  unfold endH at e
  split at e
  · rename_i c
    exact .inl ⟨c.1, c.2, (Option.some.inj e).symm⟩
  · split at e
    · exact .inr ⟨by assumption, (Option.some.inj e).symm⟩
    · cases e
theorem endH_tb {b : Addr} (h : b ∈ tb) (n : b ≠ a) : endH K a o xs tb b = some (.tbl #[]) := by
  unfold endH
  rw [if_neg (fun z => n z.1), if_pos h]
theorem endH_script (h : K.lookup a = none) : endH K a o xs tb a = some (.frz o (.lst xs)) := by
  unfold endH
  exact if_pos ⟨rfl, h⟩
end
abbrev emptyT : Obj := { cls := .none, data := .fields #[] }
abbrev rowL (vs : List Value) : Obj := { cls := .type "list", data := .seq vs.toArray }
section
variable {P : Program} {w : World} {K : PySem.W.Frag} {mg mb : Str → Option Value} {k : Nat} {fa a : Addr} {cs : List (Addr × Addr)} {fd : FuncData} {x : Str} {sp : Sp} {s : Shared} {vs : List Value} {ns : List Int}
theorem law_callG (KX : K.In s.heap) (hG : s.heap.Ns mainGlobals mg) (hB : s.heap.Ns builtinsNs mb) (hbb : ∀ x : Str, x ≠ "__name__" → mb x = bootBuiltins x) (hlim : s.heap.NoLimit) (hgen : s.gens = #[])
    (hT : ∀ p ∈ cs, s.heap.get? p.2 = some emptyT) (nT : ∀ p ∈ cs, K.lookup p.2 = none) (C : ∀ p ∈ cs, PySem.W.CodeHd s.heap p.1 p.2)
    (hbm : ∃ (bm : Addr) (ob : Obj), mg "__builtins__" = some (.ref bm) ∧ bm ≠ builtinsNs ∧ s.heap.get? bm = some ob ∧ ob.cls = .type "module" ∧ ob.dict = some builtinsNs ∧ ob.data = .plain)
    (ha : s.heap.get? a = some (rowL vs)) (hi : IntsAre vs ns) (hl : ns.length ≤ sizeLine) (hr : Room k callerA)
    (F : ∀ base : Heap, K.In base → base.Ns mainGlobals mg → (∀ p ∈ cs, TabB base mg p.1 p.2) → FnG P w K mg base (L2.CX P w) k fa fd [x] sp) (hbind : ∀ (s : Shared) (u : Value), BindsTo s fd ⟨[u], []⟩ [(x, u)])
    (hsp : ∀ H : Hp, (∀ p ∈ cs, H p.2 = some (.tbl #[])) → SqL K H a (ns.map V.int) → sp [.ref a] H (fun v _ => v = .bl true) fun _ _ _ => False) (hCX : ∀ H e s', L2.CX P w [] H s (fun _ _ _ => False) e s' → False) :
    codeAny (model P w) callerA (.call (.ref fa) ⟨[.ref a], []⟩) (fun r s' => r = .ok (.ret (.bool true)) ∧ OldK s.heap s'.heap ∧ s'.os = s.os ∧ AllBare s'.gens) s := by
  have rel : Vals (ns.map V.int) vs := vals_ints hi
  have len : vs.length = ns.length := hi.length
  have tabs : ∀ {b : Addr}, b ∈ cs.map (·.2) → s.heap.get? b = some emptyT ∧ K.lookup b = none := by
    intro b hb
    obtain ⟨p, hp, rfl⟩ := List.mem_map.mp hb
    exact ⟨hT p hp, nT p hp⟩
  let H : Hp := endH K a (rowL vs) (ns.map V.int) (cs.map (·.2))
  -- what is tracked is a list or an empty table, and none of the module's
  have seen : ∀ {b : Addr} {u : HO} {o : Obj}, H b = some u → s.heap.get? b = some o → (o = rowL vs ∨ o = emptyT) ∧ K.lookup b = none := by
    intro b u o hu ho
    rcases endH_cases hu with ⟨rfl, hk, _⟩ | ⟨hb, _⟩
    · exact ⟨.inl (Option.some.inj (ho.symm.trans ha)), hk⟩
    · exact ⟨.inr (Option.some.inj (ho.symm.trans (tabs hb).1)), (tabs hb).2⟩
  have free : ∀ {b : Addr} {o : Obj}, s.heap.get? b = some o → o ≠ rowL vs → o ≠ emptyT → H b = none := by
    intro b o ho n1 n2
    cases q : H b with
    | none => rfl
    | some u =>
      rcases (seen q ho).1 with z | z
      · exact absurd z n1
      · exact absurd z n2
  have base1 : ∀ {b : Addr} {o : Obj}, s.heap.get? b = some o → H b = none → (hidT s.heap H).get? b = some o := fun e n => hidT_get e n
  have dict : ∀ {o : Obj} {es : Array DictEntry} {n : Nat}, o.data = .dict es n → o ≠ rowL vs ∧ o ≠ emptyT := by
    intro o es n e
    constructor
    · rintro rfl
      cases e
    · rintro rfl
      cases e
  have names : ∀ {b : Addr} {m : Str → Option Value}, s.heap.Ns b m → (hidT s.heap H).Ns b m := by
    rintro b m ⟨o, es, n, e, d, r⟩
    exact ⟨o, es, n, base1 e (free e (dict d).1 (dict d).2), d, r⟩
  have KB : K.In (hidT s.heap H) := by
    intro b o e
    refine base1 (KX b o e) ?_
    cases q : H b with
    | none => rfl
    | some u => exact absurd ((seen q (KX b o e)).2.symm.trans e) (fun z => by cases z)
  obtain ⟨mc, lim1, lim2⟩ := hlim
  have M : L2.Mod K mg (hidT s.heap H) := ⟨KB, names hG, ⟨mb, names hB, hbb⟩, ⟨mc, names lim1, lim2⟩⟩
  have aT : ∀ {b : Addr}, b ∈ cs.map (·.2) → b ≠ a := by
    rintro b hb rfl
    have z := (tabs hb).1
    rw [ha] at z
    cases z
  have TB : ∀ p ∈ cs, TabB (hidT s.heap H) mg p.1 p.2 := by
    intro p hp
    have at_ := hT p hp
    refine ⟨?_, ?_, ?_⟩
    · obtain ⟨o, us, file, tf, flags, tg, inF, text, tt, e1, r1, r2, r3, more⟩ := C p hp
      refine ⟨o, us, file, tf, flags, tg, inF, text, tt, base1 e1 (free e1 (fun z => ?_) fun z => ?_), r1, r2, r3, more⟩
      · rw [z] at r2; cases r2
      · rw [z] at r2
        cases r2
        simp at r3
    · obtain ⟨bm, ob, b1, b2, b3, b4, b5, b6⟩ := hbm
      have other : ∀ {o : Obj}, (o = rowL vs ∨ o = emptyT ∨ ∃ es n, o.data = .dict es n) → ob ≠ o := by
        rintro o (rfl | rfl | ⟨es, n, z⟩) rfl
        · cases b6
        · cases b6
        · rw [b6] at z; cases z
      refine ⟨bm, ob, b1, b2, fun z => ?_, fun z => ?_, base1 b3 (free b3 (other (.inl rfl)) (other (.inr (.inl rfl)))), b4, b5, b6⟩
      · obtain ⟨o, es, n, e, d, _⟩ := hG
        rw [z] at b3
        exact other (.inr (.inr ⟨es, n, d⟩)) (Option.some.inj (b3.symm.trans e))
      · rw [z] at b3
        exact other (.inr (.inl rfl)) (Option.some.inj (b3.symm.trans at_))
    · intro z
      obtain ⟨o, es, n, e, d, _⟩ := hG
      rw [z] at e
      exact (dict d).2 (Option.some.inj (e.symm.trans at_))
  have isH : HOk P w H s.heap := by
    intro b u hu
    rcases endH_cases hu with ⟨rfl, _, rfl⟩ | ⟨hb, rfl⟩
    · exact ⟨ha, by rw [List.length_map]; exact hl, vs, _, rel, ha⟩
    · exact (tabs hb).1
  have sq : SqL K H a (ns.map V.int) := by
    cases hk : K.lookup a with
    | none => exact .inl (.inr ⟨_, endH_script hk⟩)
    | some o =>
      obtain rfl : rowL vs = o := Option.some.inj (ha.symm.trans (KX a o hk))
      exact .inr ⟨_, vs.toArray, _, hk, rfl, rfl, rfl, by rw [List.size_toArray, len]; exact hl, by simpa using rel⟩
  have tbl : ∀ p ∈ cs, H p.2 = some (.tbl #[]) := fun p hp => endH_tb (List.mem_map.mpr ⟨p, hp, rfl⟩) (aT (List.mem_map.mpr ⟨p, hp, rfl⟩))
  have env : Env0 P w K mg (hidT s.heap H) callerA [] s H := ⟨rfl, M, fun b o e => of_hidT e, Nat.le_of_eq (hidT_size _ _), trivial, fun b z => absurd (show b ∈ ([] : List Addr) from z) List.not_mem_nil, isH, .of_eq hgen⟩
  have go := (F _ KB (names hG) TB).run callerA rfl [] s H ⟨[.ref a], []⟩ [.ref a] [.ref a] (fun v _ => v = .bl true) (fun _ _ _ => False) hr env (hbind s (.ref a)) (.cons rfl .nil) (hsp H tbl sq)
  refine codeAny_mono go ?_
  intro r s' h
  match r, h with
  | .error e, h => exact (hCX H e s' h).elim
  | .ok (.ret u), ⟨v, H', os, bare, un, hok, ru, hv⟩ =>
    obtain rfl : v = .bl true := hv
    obtain rfl : u = Value.bool true := ru
    have stay : ∀ b o, b ∉ cs.map (·.2) → s.heap.get? b = some o → s'.heap.get? b = some o := by
      intro b o nb e
      cases q : H b with
      | none => exact un.keep b o e q (fun z => absurd (show b ∈ ([] : List Addr) from z) List.not_mem_nil) List.not_mem_nil
      | some u =>
        rcases endH_cases q with ⟨rfl, _, rfl⟩ | ⟨hb, _⟩
        · rw [← Option.some.inj (ha.symm.trans e)]
          exact (hok b _ (un.frzs b _ _ q)).1
        · exact absurd hb nb
    have grow : ∀ p ∈ cs, ∃ more : Array Value, s'.heap.get? p.2 = some { cls := .none, data := .fields more } := by
      intro p hp
      obtain ⟨more, z⟩ := un.tbls p.2 #[] (tbl p hp)
      exact ⟨_, hok p.2 _ z⟩
    refine ⟨rfl, ⟨?_, ?_⟩, os, bare⟩
    · intro b o e
      by_cases hb : b ∈ cs.map (·.2)
      · obtain ⟨p, hp, rfl⟩ := List.mem_map.mp hb
        obtain ⟨more, hm⟩ := grow p hp
        obtain rfl : emptyT = o := Option.some.inj ((hT p hp).symm.trans e)
        exact .inr (.inl ⟨((C p hp).tab (hT p hp)).isCodeTable, rfl, #[], more, rfl, by rw [Array.empty_append]; exact hm⟩)
      · exact .inl (stay b o hb e)
    · intro b o e
      by_cases hb : b ∈ cs.map (·.2)
      · obtain ⟨p, hp, rfl⟩ := List.mem_map.mp hb
        obtain ⟨more, hm⟩ := grow p hp
        exact ⟨_, hm⟩
      · exact ⟨o, stay b o hb e⟩
end
/-- what the law's def must keep, at the head's heap -/
def LawG (l : PySem.W.OpenLaw) (w : World) (K : PySem.W.Frag) (k n : Nat) (x : Str) (mg : Str → Option Value) (fa : Addr) (h : Heap) : Prop :=
  ∃ (fd : FuncData) (cs : List (Addr × Addr)) (sp : Sp), (∀ p ∈ cs, h.get? p.2 = some emptyT) ∧ (∀ p ∈ cs, K.lookup p.2 = none) ∧ (∀ p ∈ cs, PySem.W.CodeHd h p.1 p.2) ∧ (∀ (s : Shared) (u : Value), BindsTo s fd ⟨[u], []⟩ [(x, u)]) ∧
    (∀ (H : Hp) (a : Addr) (ns : List Int), ns.length ≤ n → (∀ p ∈ cs, H p.2 = some (.tbl #[])) → SqL K H a (ns.map V.int) → sp [.ref a] H (fun v _ => v = .bl true) fun _ _ _ => False) ∧
    ∀ base : Heap, K.In base → base.Ns mainGlobals mg → (∀ p ∈ cs, TabB base mg p.1 p.2) → FnG l.prog w K mg base (L2.CX l.prog w) k fa fd [x] sp
theorem walk_G {l : PySem.W.OpenLaw} {n k : Nat} {q : Program} {loose : List Str} {XP : (Str → Option Value) → Heap → Prop} {YP : World → Heap → Prop} {d : DefRec} {x : Str} (hn : l.most = some n) (hn2 : n ≤ sizeLine) (hdf : d.params.defaults = []) (hr : Room k callerA)
    (F : ∀ (w : World) (mg : Str → Option Value) (fa : Addr) (h : Heap), YP w h → h.Ns mainGlobals mg → mg d.name = some (.ref fa) → ∃ K : PySem.W.Frag, K.In h ∧ LawG l w K k n x mg fa h) :
    PySem.W.WalkO q loose XP YP l.row.toRowW d [] (fun f vs => PySem.call f vs) := by
  refine Att.attach_callB hn hdf fun w s₀ s₁ mg mb fa o pm cd doc a vs ns G Y _ _ _ hmg hobj hints hlen _ hgen => ?_
  obtain ⟨K, KX, fd, cs, sp, g1, g2, g3, g4, g5, g6⟩ := F w mg fa _ Y G.T.g hmg
  refine law_callG KX G.T.g G.T.b G.T.builtins G.T.nolimit hgen g1 g2 g3 G.T.bmain hobj hints (Nat.le_trans hlen hn2) hr g6 g4 (fun H => g5 H a ns hlen) fun H e s' h => ?_
  obtain ⟨_, _, _, _, _, _, _, _, _, _, _, _, z⟩ := h
  exact z
end Tre
set_option maxHeartbeats 2000000
/-! TreX: the facts of a row, as Bools over the written part. -/
namespace Tre
open PySem PySem.Spec PyProof.Rows L2 LamX NdefX

theorem and2 {a b : Bool} (h : (a && b) = true) : a = true ∧ b = true := Bool.and_eq_true_iff.mp h
/-! ### parameters without defaults -/
theorem zip_there {n : Str} : ∀ {ps : List Str} {us : List Value}, us.length = ps.length → n ∈ ps → ((ps.zip us).lookup n).isNone = false
  | p :: ps, u :: us, hl, h => by
    rw [List.zip_cons_cons, List.lookup_cons]
    by_cases e : n = p
    · subst e
      rw [beq_self_eq_true]
      rfl
    · rw [beq_false_of_ne e]
      exact zip_there (by simpa using hl) ((List.mem_cons.mp h).resolve_left e)
theorem no_missing {ps : List Str} {us : List Value} (hl : us.length = ps.length) : (ps.filter fun n => ((ps.zip us).lookup n).isNone) = [] :=
  List.filter_eq_nil_iff.mpr fun n hn => by rw [zip_there hl hn]; exact Bool.false_ne_true
theorem zip_kept : ∀ {ps : List Str} {us : List Value} {l : List (Str × Value)}, us.length = ps.length → ps.Nodup → (∀ n ∈ ps, l.lookup n = (ps.zip us).lookup n) → (ps.filterMap fun n => (l.lookup n).map fun v => (n, v)) = ps.zip us
  | [], [], _, _, _, _ => rfl
  | p :: ps, u :: us, l, hl, hd, h => by
    have h0 := h p List.mem_cons_self
    rw [List.zip_cons_cons, List.lookup_cons, beq_self_eq_true] at h0
    rw [List.filterMap_cons, h0]
    show (p, u) :: _ = _
    rw [List.zip_cons_cons]
    refine congrArg ((p, u) :: ·) (zip_kept (by simpa using hl) (List.nodup_cons.mp hd).2 fun n hn => ?_)
    have h1 := h n (List.mem_cons_of_mem _ hn)
    rw [List.zip_cons_cons, List.lookup_cons, beq_false_of_ne (fun z => (List.nodup_cons.mp hd).1 (by rw [← z]; exact hn))] at h1
    exact h1
theorem bind_args {n1 n2 : Str} {as : List PySem.Arg} {n4 : FuncBody} {n5 : Scope} {n6 : Addr} {n7 : List (Str × Addr)} {n9 n10 n11 : Value} {n12 : Option Addr} {n13 n14 : Value} {n15 : Addr} {us : List Value} (hl : us.length = (as.map (·.arg)).length) (hd : (as.map (·.arg)).Nodup) :
    bindArgs ⟨n1, n2, ⟨[], as, none, [], [], none, []⟩, n4, n5, n6, n7, .none, n9, n10, n11, n12, n13, n14, n15⟩ ⟨us, []⟩ = pure ((as.map (·.arg)).zip us) := by
  have hm := no_missing hl
  have h1 : List.take as.length (as.map (·.arg)) = as.map (·.arg) := List.take_of_length_le (by rw [List.length_map]; exact Nat.le_refl _)
  have hk := zip_kept (l := (as.map (·.arg)).zip us) hl hd fun _ _ => rfl
  unfold bindArgs
  simp only [List.map_nil, List.nil_append]
  have e : (seqItems? Value.none : Sem (Option (Array Value))) = pure none := rfl
  rw [e]
  simp [hl]
  rw [if_neg (by simp only [List.drop_nil, List.length_nil, Nat.sub_zero, List.length_map, h1, hm]; simp)]
  rw [List.filterMap_map] at hk
  rw [hk]
def plainA (a : Arguments) : Bool := a.posonlyargs.isEmpty && a.vararg.isNone && a.kwonlyargs.isEmpty && a.kw_defaults.isEmpty && a.kwarg.isNone && a.defaults.isEmpty && decide (a.args.map (·.arg)).Nodup
def psOf (a : Arguments) : List Str := a.args.map (·.arg)
theorem plainA_eq {a : Arguments} (h : plainA a = true) : a = ⟨[], a.args, none, [], [], none, []⟩ ∧ (psOf a).Nodup := by
  obtain ⟨p1, p2, p3, p4, p5, p6, p7⟩ := a
  unfold plainA at h
  simp only [Bool.and_eq_true, List.isEmpty_iff, Option.isNone_iff_eq_none, decide_eq_true_eq] at h
  obtain ⟨⟨⟨⟨⟨⟨rfl, rfl⟩, rfl⟩, rfl⟩, rfl⟩, rfl⟩, h⟩ := h
  exact ⟨rfl, h⟩
theorem bind_plain {fd : FuncData} (h : plainA fd.params = true) (hd : fd.defaults = .none) {us : List Value} (hl : us.length = (psOf fd.params).length) : bindArgs fd ⟨us, []⟩ = pure ((psOf fd.params).zip us) := by
  obtain ⟨e, nd⟩ := plainA_eq h
  obtain ⟨n1, n2, a, n4, n5, n6, n7, n8, n9, n10, n11, n12, n13, n14, n15⟩ := fd
  obtain rfl : n8 = .none := hd
  have e : a = ⟨[], a.args, none, [], [], none, []⟩ := e
  have nd : (psOf a).Nodup := nd
  have hl : us.length = (psOf a).length := hl
  show bindArgs ⟨n1, n2, a, n4, n5, n6, n7, .none, n9, n10, n11, n12, n13, n14, n15⟩ ⟨us, []⟩ = pure ((psOf a).zip us)
  rw [e] at hl nd ⊢
  exact bind_args hl nd
theorem binds_plain {K : PySem.W.Frag} {x qual : Str} {params : Arguments} {body : List Stmt} {scope : Scope} {f : Addr} {fd : FuncData} (F : FunD K x qual params body scope [] [] f fd) (h : plainA params = true) : Binds K fd (psOf params) [] :=
  F.bindsN fun kV doc pm an cdv ct us hl => bind_plain (fd := PySem.W.fnOf x qual params body scope .none kV doc pm an cdv ct) h rfl hl

/-! ### constants -/
mutual
def rpB (K : PySem.W.Frag) : D → Value → Bool
  | .none, .none => true
  | .bool b, .bool c => b == c
  | .int i, .int j _ => decide (i = j)
  | .str x, .str y _ => decide (x = y) && decide (x.length ≤ sizeLine) && PyData.strOk x
  | .tuple ds, .ref a => (match K.lookup a with
    | some ⟨.type c, _, .seq its _, _⟩ => decide (c = "tuple") && decide (its.size ≤ sizeLine) && rpBA K ds its.toList
    | _ => false)
  | _, _ => false
def rpBA (K : PySem.W.Frag) : List D → List Value → Bool
  | [], [] => true
  | d :: ds, v :: vs => rpB K d v && rpBA K ds vs
  | _, _ => false
end
mutual
theorem rpB_ok {K : PySem.W.Frag} : ∀ {d : D} {u : Value}, rpB K d u = true → ∃ v, RelV v u ∧ Rp K (fun _ => none) v d
  | .none, u, h => by
    cases u <;> first | exact ⟨.non, rfl, .non⟩ | cases h
  | .bool b, u, h => by
    cases u with
    | bool c =>
      have h : (b == c) = true := h
      obtain rfl := eq_of_beq h
      exact ⟨.bl b, rfl, .bl b⟩
    | _ => cases h
  | .int i, u, h => by
    cases u with
    | int j t =>
      obtain rfl : i = j := of_decide_eq_true h
      exact ⟨.int i, ⟨t, rfl⟩, .int i⟩
    | _ => cases h
  | .str x, u, h => by
    cases u with
    | str y t =>
      have h : (decide (x = y) && decide (x.length ≤ sizeLine) && PyData.strOk x) = true := h
      obtain ⟨h1, h3⟩ := and2 h
      obtain ⟨h1, h2⟩ := and2 h1
      obtain rfl : x = y := of_decide_eq_true h1
      exact ⟨.str x, ⟨t, rfl⟩, .str x (of_decide_eq_true h2) h3⟩
    | _ => cases h
  | .tuple ds, u, h => by
    cases u with
    | ref a =>
      unfold rpB at h
      cases q : K.lookup a with
      | none => rw [q] at h; cases h
      | some o =>
        obtain ⟨oc, od, dt, osl⟩ := o
        rw [q] at h
        cases oc with
        | type c =>
          cases dt with
          | seq its n =>
            have h : (decide (c = "tuple") && decide (its.size ≤ sizeLine) && rpBA K ds its.toList) = true := h
            obtain ⟨h1, h3⟩ := and2 h
            obtain ⟨h1, h2⟩ := and2 h1
            obtain ⟨vs, r1, r2⟩ := rpBA_ok h3
            exact ⟨.ref a, rfl, .tup (.inr ⟨_, its, n, q, congrArg Value.type (of_decide_eq_true h1), rfl, of_decide_eq_true h2, r1⟩) r2⟩
          | _ => cases h
        | _ => cases dt <;> cases h
    | _ => cases h
  | .list ds, u, h => by cases u <;> cases h
  | .dict ds, u, h => by cases u <;> cases h
theorem rpBA_ok {K : PySem.W.Frag} : ∀ {ds : List D} {us : List Value}, rpBA K ds us = true → ∃ vs, Vals vs us ∧ RpA K (fun _ => none) vs ds
  | [], [], _ => ⟨[], .nil, .nil⟩
  | [], _ :: _, h => by cases h
  | _ :: _, [], h => by cases h
  | d :: ds, u :: us, h => by
    have h : (rpB K d u && rpBA K ds us) = true := h
    obtain ⟨h1, h2⟩ := and2 h
    obtain ⟨v, r1, r2⟩ := rpB_ok h1
    obtain ⟨vs, r3, r4⟩ := rpBA_ok h2
    exact ⟨v :: vs, .cons r1 r3, .cons r2 r4⟩
end
/-- the module's name x holds d -/
def cnB (K : PySem.W.Frag) (x : Str) (d : D) : Bool := match PySem.W.nsIn K mainGlobals x with
  | some (some u) => rpB K d u
  | _ => false
theorem cnB_ok {K : PySem.W.Frag} {h : Heap} {mg : Str → Option Value} {x : Str} {d : D} (X : K.In h) (G : h.Ns mainGlobals mg) (e : cnB K x d = true) : ∃ u v, mg x = some u ∧ RelV v u ∧ Rp K (fun _ => none) v d := by
  unfold cnB at e
  cases q : PySem.W.nsIn K mainGlobals x with
  | none => rw [q] at e; cases e
  | some o =>
    rw [q] at e
    cases o with
    | none => cases e
    | some u =>
      obtain ⟨v, r1, r2⟩ := rpB_ok (show rpB K d u = true from e)
      exact ⟨u, v, PySem.W.mg_of X G q, r1, r2⟩

/-! ### own exceptions -/
def oexB (K : PySem.W.Frag) (C : Addr) : Bool := (match K.lookup C with
  | some ⟨.type t, _, .cls cd, sl⟩ => decide (t = "type") && (match cd.mro, sl.toList with
    | .ref C' :: bm, [_, _, _, _, some (.builtin n), _] => decide (C' = C) && decide (n = "ValueError.__new__") && !cd.hasDel && cd.hasDict && PySem.HandSPX.refsVE bm
    | _, _ => false)
  | _ => false) && decide (PySem.W.findIn K (.ref C) "__setattr__" = some (some (.builtin "object.__setattr__"))) && decide (PySem.W.subIn K (.ref C) (.type "BaseException") = some true) && decide (PySem.W.typeIn K (.ref C) = some (.type "type")) && PySem.W.keepIn K (.ref C)
theorem oexB_ok {K : PySem.W.Frag} {C : Addr} (h : oexB K C = true) : OexC K C := by
  unfold oexB at h
  obtain ⟨h, h5⟩ := and2 h
  obtain ⟨h, h4⟩ := and2 h
  obtain ⟨h, h3⟩ := and2 h
  obtain ⟨h, h2⟩ := and2 h
  refine ⟨?_, of_decide_eq_true h2, of_decide_eq_true h3, of_decide_eq_true h4, h5⟩
  split at h
  · rename_i t dd cd sl ho
    obtain ⟨ht, h⟩ := and2 h
    obtain rfl : t = "type" := of_decide_eq_true ht
    split at h
    · rename_i C' bm k0 k1 k2 k3 n k5 hm hs
      simp only [Bool.and_eq_true, decide_eq_true_eq, Bool.not_eq_true'] at h
      have h := h.2
      have hr := h.2
      have hdi := h.1.2
      have hdel := h.1.1.2
      have q1 := h.1.1.1.1
      have q2 := h.1.1.1.2
      subst q1
      subst q2
      obtain ⟨nm, bs, mro, ns, qn, hd, sn, sub, ab, col, del⟩ := cd
      dsimp only at hm hdel hdi
      subst hm hdel hdi
      have hsl : sl = #[k0, k1, k2, k3, some (.builtin "ValueError.__new__"), k5] := by
        obtain ⟨l⟩ := sl
        simp only at hs
        rw [hs]
      subst hsl
      exact ⟨_, _, _, _, bm, _, _, _, _, _, _, _, _, _, _, ho, hr⟩
    · cases h
  · cases h
/-- super().__init__(all of ps); self.p = p .. -/
def initB (N : List Str) (names : List Str) : List Stmt → Bool
  | .Expr (.Call (.Attribute (.Call (.Name s _) [] [] _) i p2) (e0 :: es0) [] p3) _ :: rest => decide (s = "super") && decide (i = "__init__") && (p2.endLine == p3.line) && (e0 :: es0).all (fun e => !isStar e) && decide ((e0 :: es0).length < 30)
    && bArgs N (e0 :: es0) ((List.range names.length).map (· + 1)) && bStores N "self" rest ((names.zip (List.range names.length)).map fun p => (p.1, p.2 + 1))
  | _ => false
def supN (names : List Str) : List Str := ("self" : Str) :: (names ++ [("__class__" : Str)])
def fileB (K : PySem.W.Frag) (file : Str) (c : Addr) : Bool := match K.lookup c with
  | some ⟨_, _, .fields vs, _⟩ => (match (vs[2]? : Option Value) with
    | some (.str f _) => (file == f)
    | _ => false)
  | _ => false
def cellB (K : PySem.W.Frag) (C cc : Addr) : Bool := match K.lookup cc with
  | some ⟨_, _, .cell (some (.ref C')), _⟩ => decide (C' = C)
  | _ => false
def fdB (K : PySem.W.Frag) (file : Str) (C : Addr) (names : List Str) (fd : FuncData) : Bool := match fd with
  | ⟨_, q, a, .stmts b, sc, g, [(cn, cc)], .none, .none, _, _, none, .ref c, _, bl⟩ => decide (g = mainGlobals) && decide (bl = builtinsNs) && decide (cn = "__class__") && PySem.W.codeIn K (.ref c) q && fileB K file c && cellB K C cc && plainA a && decide (psOf a = ("self" : Str) :: names)
    && nscB (supN names) (("self" : Str) :: names) ["__class__"] sc && decide (sc.names.lookup ("super" : Str) = some .globalImplicit) && initB (supN names) names b
  | _ => false
def supB (K : PySem.W.Frag) (file x : Str) (names : List Str) : Bool :=
  (match K.lookup (He.ma K (He.ga K x) "__init__") with
  | some ⟨_, _, .func fd, _⟩ => fdB K file (He.ga K x) names fd
  | _ => false) && oexB K (He.ga K x) && decide (PySem.W.ks_superIn K (He.ga K x) (He.ga K x) "__init__" = some (some (.builtin "ValueError.__init__"))) && decide (PySem.W.subIn K (.ref (He.ga K x)) (.type "ValueError") = some true)
  && decide (PySem.W.mroIn K (He.ga K x) (.ref (He.ga K x)) = some true) && decide (PySem.W.nsIn K PySem.cStatics "thirdparty.any" = some none) && decide (PySem.W.nsIn K mainGlobals "super" = some none)
  && decide (PySem.W.findIn K (.ref (He.ga K x)) "__init__" = some (some (.ref (He.ma K (He.ga K x) "__init__")))) && decide (PySem.W.typeIn K (.ref (He.ma K (He.ga K x) "__init__")) = some (.type "function"))
  && names.all (fun f => decide (PySem.W.findIn K (.ref (He.ga K x)) f = some none)) && decide (PySem.W.nsIn K mainGlobals x = some (some (.ref (He.ga K x)))) && !names.isEmpty && decide (names.length ≤ 900)
theorem sup_call {o : Expr} {m : Str} {p2 p3 : Pos} {es : List Expr} {env : PySem.Env} (hl : (p2.endLine == p3.line) = true) (hs : es.all (fun e => !isStar e) = true) (hn : es.length < 30) : eval (.Call (.Attribute o m p2) es [] p3) env = (do
      let ov ← attributeBase o m env (eval o env)
      standAt p2.atName
      let (g, first) ← holding [ov] (getMethod ov m (plainOf o env))
      callWith p3 g first (backTo p3 (starEach es env)) []) := by
  have hf : ∀ n, n < 29 + 1 → methodCallForm n (backTo p3 (starEach es env)) [] = true := fun n h => by
    unfold methodCallForm
    have h1 : (backTo p3 (starEach es env)).all (!·.1) = true := by
      have := plain_of (pos := p3) (env := env) hs
      rw [List.all_eq_not_any_not]
      simpa using this
    rw [h1]
    simpa using h
  have e : ∀ ov, methodCall o m p2 p3 env ov (es.length + 0) (backTo p3 (starEach es env)) [] = (do
      let (g, first) ← holding [ov] (getMethod ov m (plainOf o env))
      callWith p3 g first (backTo p3 (starEach es env)) []) := fun ov => mcall_line (hf _ hn) hl
  show (do
    let ov ← attributeBase o m env (eval o env)
    standAt p2.atName
    methodCall o m p2 p3 env ov (es.length + 0) (backTo p3 (starEach es env)) []) = _
  simp only [e]
theorem sup_xc {C0 : Cf} {X : Cx} {W : WX} {c : Nat} {x : Str} {names : List Str} {file : Str} (h : supB X.K file x names = true) (hfile : ((X.prog.main.file : Str) == file) = true) (htop : (X.prog.main.scope.names.lookup ("super" : Str)).isSome = false) (hX : C0.Xn c = some (He.ga X.K x, names.reverse))
    (gm : X.mg x = some (.ref (He.ga X.K x))) (hdb : (x == ("__debug__" : Str)) = false) (hcalm : X.calm = true) (hr : Room 3 X.A) (tk : Takes X W) : XcOk C0 X c x names.length := by
  unfold supB at h
  simp only [Bool.and_eq_true, decide_eq_true_eq, Bool.not_eq_true', List.isEmpty_eq_false_iff] at h
  obtain ⟨⟨⟨⟨⟨⟨⟨⟨⟨⟨⟨⟨h1, h2⟩, h3⟩, h4⟩, h5⟩, h6⟩, h7⟩, h8⟩, h9⟩, h10⟩, h11⟩, h12⟩, h13⟩ := h
  split at h1
  case h_2 => cases h1
  rename_i oc od fd osl lk
  unfold fdB at h1
  split at h1
  case h_2 => cases h1
  rename_i nm q a b sc g cn cc doc pm c0 ct bl
  simp only [Bool.and_eq_true, decide_eq_true_eq] at h1
  obtain ⟨⟨⟨⟨⟨⟨⟨⟨⟨⟨rfl, rfl⟩, rfl⟩, k4⟩, k5⟩, k6⟩, k7⟩, k8⟩, k9⟩, k10⟩, k11⟩ := h1
  unfold initB at k11
  split at k11
  case h_2 => cases k11
  rename_i s p0 p1 i p2 e0 es0 p3 p4 rest
  simp only [Bool.and_eq_true, decide_eq_true_eq] at k11
  obtain ⟨⟨⟨⟨⟨⟨rfl, rfl⟩, m3⟩, m4⟩, m5⟩, m6⟩, m7⟩ := k11
  have S := nscope_by k9
  have hf : ∃ (ccl : Value) (cdd : Option Addr) (vs : Array Value) (ccs : Array (Option Value)) (f2 : Str) (tf : Tok), X.K.lookup c0 = some ⟨ccl, cdd, .fields vs, ccs⟩ ∧ vs[2]? = some (.str f2 tf) ∧ ((X.prog.main.file : Str) == f2) = true := by
    unfold fileB at k5
    split at k5
    · rename_i ccl cdd vs ccs e1
      split at k5
      · rename_i f2 tf e2
        refine ⟨_, _, vs, _, f2, tf, e1, e2, ?_⟩
        rw [← eq_of_beq k5]; exact hfile
      · cases k5
    · cases k5
  have hc : ∃ (cl : Value) (cld : Option Addr) (csl : Array (Option Value)), X.K.lookup cc = some ⟨cl, cld, .cell (some (.ref (He.ga X.K x))), csl⟩ := by
    unfold cellB at k6
    split at k6
    · rename_i cl cld C' csl e1
      obtain rfl := of_decide_eq_true k6
      exact ⟨_, _, _, e1⟩
    · cases k6
  obtain ⟨ea, _⟩ := plainA_eq k7
  have ha : a.args.map (·.arg) = ("self" : Str) :: names := k8
  have T : SupK X.K X.prog (He.ga X.K x) (He.ma X.K (He.ga X.K x) "__init__") ⟨nm, q, a, .Expr (.Call (.Attribute (.Call (.Name "super" p0) [] [] p1) "__init__" p2) (e0 :: es0) [] p3) p4 :: rest, sc, [("__class__", cc)], c0⟩ cc "self" (("self" : Str) :: names) :=
    ⟨⟨oc, od, doc, pm, ct, osl, lk⟩, rfl, k4, hf, hc, oexB_ok h2, h3, h4, h5, h6, htop, h7, by
      show ∃ ar, (a.posonlyargs ++ a.args).head? = some ar ∧ ar.arg = "self"
      rw [ea]
      match q : a.args, ha with
      | ar :: r, ha => exact ⟨ar, rfl, by simpa using (List.cons.inj ha).1⟩, ⟨names, rfl⟩, k10⟩
  have hN0 : (supN names)[0]? = some ("self" : Str) := rfl
  have hrg : ∀ i ∈ (List.range names.length).map (· + 1), i < (("self" : Str) :: names).length := fun i hi => by
    obtain ⟨j, hj, rfl⟩ := List.mem_map.mp hi
    have := List.mem_range.mp hj
    rw [List.length_cons]; omega
  refine xc_of (C0 := C0) (X := X) (W := W) (c := c) (x := x) (la := (List.range names.length).map (· + 1)) (l := (names.zip (List.range names.length)).map fun p => (p.1, p.2 + 1)) T S rfl m4 ⟨fun L => plainOf _ _, fun L => sup_call m3 m4 m5⟩ m6 m7 rfl rfl hrg (by rw [List.length_map, List.length_range]; omega) h12 h13 hN0 (fun i y hy => ?_) (by decide) (by decide) (fun p hp => ?_) hX gm hdb h8 h9 (fun doc pm ct => .all fun us hl => ?_) hcalm hr tk
  · rcases List.mem_append.mp (show y ∈ (("self" : Str) :: names) ++ [("__class__" : Str)] from List.mem_of_getElem? hy) with z | z
    · exact .inl (S.par y z)
    · exact .inr (.inr (S.frk y z))
  · obtain ⟨q, hq, rfl⟩ := List.mem_map.mp hp
    have := List.all_eq_true.mp h10 q.1 (List.of_mem_zip hq).1
    exact of_decide_eq_true this
  · have := bind_plain (fd := NF.fd ⟨nm, q, a, .Expr (.Call (.Attribute (.Call (.Name "super" p0) [] [] p1) "__init__" p2) (e0 :: es0) [] p3) p4 :: rest, sc, [("__class__", cc)], c0⟩ doc pm ct) k7 rfl (us := us) (by show us.length = (psOf a).length; rw [k8]; exact hl)
    have e3 : psOf a = ("self" : Str) :: names := k8
    rw [← e3]
    exact this

/-! ### own exceptions without __init__ -/
theorem pmk_own0 {X : Cx} {C : Addr} {bmB : List Value} {B newId initId : String} {x : Str} {p pos : Pos} (F : ExcBaseFacts B newId initId bmB) (q : PySem.W.excIn X.K C bmB newId = true) (gC : X.mg x = some (.ref C)) (kC : PySem.W.keepIn X.K (.ref C) = true) (r : Raises X (.ref C)) (hg : Gl X x)
    (hdb : (x == ("__debug__" : Str)) = false) : PMk X (.Call (.Name x p) [] [] pos) (fun _ H Q => Q (.ref C) none H) := by
  intro pins s σ H Q I h
  refine wpAny_Call_Name_kw (ld_glob I hg gC ?_ hdb)
  refine PySem.W.callWith_K0 I.kIn kC ?_
  show wpAny _ _ (call (.ref C) []) _ _ _
  obtain ⟨bm, N, nm, qn, bs, hdct, sn, sub, ab, col, dd, k0, k1, k2, k3, k5, mN, hC, hN, hni, T⟩ := exc_obj I.kIn q
  refine wpAny_call_exc_subT F T hC hN hni (fun h' e hm => ?_) (by show 0 ≤ sizeLine; exact Nat.zero_le _)
  exact mk_of I hm r h (I.hok.gone hm.new)
def veB : List Value := [.type "ValueError", .type "Exception", .type "BaseException", .type "object"]
def exc0B (K : PySem.W.Frag) (x : Str) : Bool := PySem.W.excIn K (He.ga K x) veB "ValueError.__new__" && PySem.W.keepIn K (.ref (He.ga K x)) && decide (PySem.W.subIn K (.ref (He.ga K x)) (.type "BaseException") = some true) && decide (PySem.W.typeIn K (.ref (He.ga K x)) = some (.type "type"))
def xcB (K : PySem.W.Frag) (file x : Str) (names : List Str) : Bool := if names.isEmpty then exc0B K x else supB K file x names
theorem all_xc {C0 : Cf} {X : Cx} {W : WX} {c : Nat} {x : Str} {names : List Str} {file : Str} (h : xcB X.K file x names = true) (hfile : ((X.prog.main.file : Str) == file) = true) (htop : (X.prog.main.scope.names.lookup ("super" : Str)).isSome = false) (hX : C0.Xn c = some (He.ga X.K x, names.reverse))
    (gm : X.mg x = some (.ref (He.ga X.K x))) (hdb : (x == ("__debug__" : Str)) = false) (hcalm : X.calm = true) (hr : Room 3 X.A) (tk : Takes X W) : XcOk C0 X c x names.length := by
  unfold xcB at h
  cases names with
  | nil =>
    have h : exc0B X.K x = true := h
    unfold exc0B at h
    simp only [Bool.and_eq_true, decide_eq_true_eq] at h
    obtain ⟨⟨⟨h1, h2⟩, h3⟩, h4⟩ := h
    exact ⟨_, _, hX, rfl, fun _ p pos hg => pmk_own0 PySem.F.excBase_ValueError h1 gm h2 (raises_own h3 h4) hg hdb, fun ta e es p pos hg ha hl => by simp at hl⟩
  | cons n ns => exact sup_xc h hfile htop hX gm hdb hcalm hr tk
end Tre
set_option maxHeartbeats 2000000
/-! TreY: a row's law from its data. -/
namespace Tre
open PySem PySem.Spec PyProof.Rows L2 LamX NdefX

/-- a def of the program that has a tree: its name, its text, its slots -/
structure Dd where
  x : Str
  st : Stmt
  N : List Str
abbrev Tds := List (Str × Nat × Option Str × Str)
/-- what catches, for a def that makes lambdas -/
def tdFor (tds : Tds) (tf : List He.Defn) (x : Str) : Tds := if (x, none) ∈ tf then tds else []
def okDd (fns cns : List Str) (xcs : List (Str × Nat)) (tds : Tds) (tf : List He.Defn) (d : Dd) : Fn → Bool
  | .prim _ => false
  | .body ar n b => C8.scC d.N (psOf (defArgs d.st)) (defScope d.st) && decide (d.N.length = n) && decide ((psOf (defArgs d.st)).length = ar) && decide (ar ≤ n) && plainA (defArgs d.st) && chkSs d.N fns cns (tdFor tds tf d.x) xcs (defScope d.st) b (defBody d.st)
def okAll (fns cns : List Str) (xcs : List (Str × Nat)) (tds : Tds) (tf : List He.Defn) : List Dd → List Fn → Bool
  | [], [] => true
  | d :: ds, f :: fs => okDd fns cns xcs tds tf d f && okAll fns cns xcs tds tf ds fs
  | _, _ => false
theorem okAll_at {fns cns : List Str} {xcs : List (Str × Nat)} {tds : Tds} {tf : List He.Defn} : ∀ {ds : List Dd} {P : List Fn}, okAll fns cns xcs tds tf ds P = true → ∀ (i : Nat) (d : Dd), ds[i]? = some d → ∃ f, P[i]? = some f ∧ okDd fns cns xcs tds tf d f = true
  | [], [], _, i, d, e => by simp at e
  | [], _ :: _, h, _, _, _ => by cases h
  | _ :: _, [], h, _, _, _ => by cases h
  | d0 :: ds, f :: fs, h, 0, d, e => by
    have h : (okDd fns cns xcs tds tf d0 f && okAll fns cns xcs tds tf ds fs) = true := h
    obtain rfl : d0 = d := by simpa using e
    exact ⟨f, rfl, (and2 h).1⟩
  | d0 :: ds, f :: fs, h, i + 1, d, e => by
    have h : (okDd fns cns xcs tds tf d0 f && okAll fns cns xcs tds tf ds fs) = true := h
    obtain ⟨g, h1, h2⟩ := okAll_at (and2 h).2 i d (by simpa using e)
    exact ⟨g, by simpa using h1, h2⟩

/-- a def that catches: try: return (okS, a()) / except e as n: return (badS, n.fld); or try: return a() / except e: return badS -/
structure Td where
  x : Str
  st : Stmt
  c : Nat
  a : Str
  e : Str
  /-- the exception's name, the word ahead, the field; none: without a name -/
  o : Option (Str × Str × Str)
  badS : Str
  j : Nat
  j2 : Nat
  k1 : Nat
  k2 : Nat
  p : Nat → Pos
structure TdFit (xcl : List (Str × List Str)) (t : Td) : Prop where
  body : defBody t.st = (match t.o with
    | some (n, okS, fld) => raisedBody t.a t.e n okS t.badS fld t.j t.j2 t.k1 t.k2 t.p
    | none => triedBody t.a t.e t.badS t.j t.p)
  ps : psOf (defArgs t.st) = [t.a]
  pl : plainA (defArgs t.st) = true
  sc : C8.scC (match t.o with
    | some (n, _) => [t.a, n]
    | none => [t.a]) [t.a] (defScope t.st) = true
  ln : ∀ n okS fld, t.o = some (n, okS, fld) → (defScope t.st).names.lookup n = some .local ∧ (n == ("__debug__" : Str)) = false ∧ (n == ("__classdict__" : Str)) = false
  la : (defScope t.st).names.lookup t.a = some .local
  ge : (defScope t.st).names.lookup t.e = some .globalImplicit
  xc : xcl[t.c]? = some (t.e, match t.o with
    | some (_, _, fld) => [fld]
    | none => [])
  d1 : (t.x == ("__debug__" : Str)) = false
  d2 : (t.a == ("__debug__" : Str)) = false
  d3 : (t.a == ("__classdict__" : Str)) = false
  d6 : (t.e == ("__debug__" : Str)) = false
def tdsOf (tdl : List Td) : Tds := tdl.map fun t => (t.x, t.c, t.o.map (·.2.1), t.badS)
/-- what is asked of K of a class that is caught -/
def catB (K : PySem.W.Frag) (e : Str) (fld : Option Str) : Bool := decide (PySem.W.exmOne K (.ref (He.ga K e)) (.ref (He.ga K e)) = some true) && (match fld with
  | some fld => xfB K (He.ga K e) && decide (PySem.W.findIn K (.ref (He.ga K e)) fld = some none)
  | none => true)
def lamQ (x : Str) (sc : Scope) : Str := (envOfC x sc 0 0 .none).qual ++ "<lambda>"

section
variable {prog : Program} {w : World} {K : PySem.W.Frag} {mg : Str → Option Value} {base : Heap}
def cnsOf (cons : List (Str × D)) : List Str := cons.map (·.1)
def gOf (cons : List (Str × D)) : Nat → Option D := fun i => (cons[i]?).map (·.2)
def xcsOf (xcl : List (Str × List Str)) : List (Str × Nat) := xcl.map fun p => (p.1, p.2.length)
def xnOf (K : PySem.W.Frag) (xcl : List (Str × List Str)) : XT := fun c => (xcl[c]?).map fun p => (He.ga K p.1, p.2.reverse)
/-- the tables of the defs that make lambdas: each has one name for its lambdas -/
def tsOf (K : PySem.W.Frag) (tf : List He.Defn) (sc : Str → Scope) : List (Addr × Str) := tf.map fun p => ((He.cT K p).2, lamQ p.1 (sc p.1))
theorem ts_uniq {tf : List He.Defn} {sc : Str → Scope} (nd : (tf.map fun p => (He.cT K p).2).Nodup) {p : He.Defn} (hp : p ∈ tf) : ∀ q ∈ tsOf K tf sc, q.1 = (He.cT K p).2 → q.2 = lamQ p.1 (sc p.1) := by
  intro q hq e
  obtain ⟨p', hp', rfl⟩ := List.mem_map.mp hq
  have e : (He.cT K p').2 = (He.cT K p).2 := e
  have : ∀ (l : List He.Defn), (l.map fun p => (He.cT K p).2).Nodup → p ∈ l → p' ∈ l → p' = p := by
    intro l
    induction l with
    | nil => intro _ h; cases h
    | cons a l ih =>
      intro nd h1 h2
      rw [List.map_cons, List.nodup_cons] at nd
      rcases List.mem_cons.mp h1 with g1 | g1
      · rcases List.mem_cons.mp h2 with g2 | g2
        · rw [g1, g2]
        · exact (nd.1 (List.mem_map.mpr ⟨p', g2, by rw [e, g1]⟩)).elim
      · rcases List.mem_cons.mp h2 with g2 | g2
        · exact (nd.1 (List.mem_map.mpr ⟨p, g1, by rw [← e, g2]⟩)).elim
        · exact ih nd.2 g1 g2
  rw [this tf nd hp hp']
/-- WHAT CATCHES, wherever a def with lambdas runs -/
theorem tdAll_of {tf : List He.Defn} {sc : Str → Scope} {G : Nat → Option D} {xcl : List (Str × List Str)} {tdl : List Td} {N : List Str} {x : Str} {params : Arguments} {body : List Stmt} {scope : Scope} {a : Addr} (hsc : scope = sc x) (ha : a = He.ga K x) (hm : (x, none) ∈ tf)
    (nd : (tf.map fun p => (He.cT K p).2).Nodup) (TB : ∀ p ∈ tf.map (He.cT K), TabB base mg p.1 p.2)
    (hxc : ∀ p ∈ xcl, mg p.1 = some (.ref (He.ga K p.1)))
    (hfit : ∀ t ∈ tdl, TdFit xcl t) (htd : ∀ t ∈ tdl, mg t.x = some (.ref (He.ga K t.x)) ∧ (∃ fd, FunD K t.x t.x (defArgs t.st) (defBody t.st) (defScope t.st) [] [] (He.ga K t.x) fd) ∧ catB K t.e (t.o.map (·.2.2)) = true) :
    TdAll G (xcsOf xcl) (tsOf K tf sc) (xnOf K xcl) (tdsOf tdl) prog w K mg base N x x params body scope a := by
  intro Φ k A outer s H E cdv hcd hcode hA hr y c o tt hmem
  obtain ⟨t, ht, e⟩ := List.mem_map.mp hmem
  obtain ⟨rfl, rfl, rfl, rfl⟩ : t.x = y ∧ t.c = c ∧ t.o.map (·.2.1) = o ∧ t.badS = tt := by
    obtain ⟨h1, h2⟩ := Prod.mk.inj e
    obtain ⟨h2, h3⟩ := Prod.mk.inj h2
    obtain ⟨h3, h4⟩ := Prod.mk.inj h3
    exact ⟨h1, h2, h3, h4⟩
  have fit := hfit t ht
  obtain ⟨g1, ⟨fdt, Ft⟩, cat⟩ := htd t ht
  have hbt := binds_plain Ft fit.pl
  rw [fit.ps] at hbt
  rw [fit.body] at Ft
  unfold catB at cat
  rw [Bool.and_eq_true, decide_eq_true_eq] at cat
  obtain ⟨c2, cat⟩ := cat
  obtain ⟨oc, od, dV, kV, doc, pm, an, ct, osl, lk⟩ := hcd
  obtain ⟨cA, rfl⟩ := He.codeIn_ref hcode
  subst ha hsc
  have eC : He.codeOf K (x, none) = cA := He.codeOf_eq (K := K) (p := (x, none)) lk rfl
  have tb := TB (He.cT K (x, none)) (List.mem_map.mpr ⟨_, hm, rfl⟩)
  have eP : (He.cT K (x, none)).1 = cA := eC
  rw [eP] at tb
  have gE := hxc _ (List.mem_of_getElem? fit.xc)
  have hXn : (xnOf K xcl) t.c = some (He.ga K t.e, (match t.o with
    | some (_, _, fld) => [fld]
    | none => ([] : List Str)).reverse) := by
    unfold xnOf
    rw [fit.xc]
    rfl
  have hmT : ((He.cT K (x, none)).2, (envOfC x (sc x) s.heap.objs.size (He.ga K x) (.ref cA)).qual ++ "<lambda>") ∈ tsOf K tf sc := List.mem_map.mpr ⟨(x, none), hm, rfl⟩
  have hu : ∀ q ∈ tsOf K tf sc, q.1 = (He.cT K (x, none)).2 → q.2 = (envOfC x (sc x) s.heap.objs.size (He.ga K x) (.ref cA)).qual ++ "<lambda>" := fun q hq e => ts_uniq nd hm q hq e
  have hsc := fit.sc
  have hln := fit.ln
  generalize hto : t.o = oo at Ft cat hXn hsc hln
  match oo, Ft, cat, hXn, hsc, hln with
  | some (n, okS, fld), Ft, cat, hXn, hsc, hln =>
    have cat : (xfB K (He.ga K t.e) && decide (PySem.W.findIn K (.ref (He.ga K t.e)) fld = some none)) = true := cat
    rw [Bool.and_eq_true, decide_eq_true_eq] at cat
    obtain ⟨l1, l2, l3⟩ := hln n okS fld rfl
    exact td_of (X := cxOf (L2.CX prog w) prog w K mg base N x (sc x) (He.ga K x) (.ref cA) A outer s H E) (CS := He.ga K t.e) (P := (He.cT K (x, none)).2) hA hr g1 Ft hbt (C8.fnScope_by hsc) rfl l1 fit.la fit.ge gE (xfB_ok cat.1) cat.2 c2 hXn tb rfl hmT hu fit.d1 fit.d2 fit.d3 l2 l3 fit.d6
  | none, Ft, cat, hXn, hsc, hln =>
    exact td_of0 (X := cxOf (L2.CX prog w) prog w K mg base N x (sc x) (He.ga K x) (.ref cA) A outer s H E) (CS := He.ga K t.e) (P := (He.cT K (x, none)).2) hA hr g1 Ft hbt (C8.fnScope_by hsc) rfl fit.la fit.ge gE c2 hXn tb rfl hmT hu fit.d1 fit.d2 fit.d3 fit.d6
theorem tdAll_nil {G : Nat → Option D} {xcs : List (Str × Nat)} {ts : List (Addr × Str)} {Xn : XT} {N : List Str} {x qual : Str} {params : Arguments} {body : List Stmt} {scope : Scope} {a : Addr} : TdAll G xcs ts Xn [] prog w K mg base N x qual params body scope a :=
  fun _ _ _ _ _ _ _ _ _ _ _ _ _ _ _ _ h => absurd h List.not_mem_nil
def scOf (ds : List Dd) (stL : Stmt) (x : Str) : Scope := if x = "law" then defScope stL else match ds.find? (fun d => d.x == x) with
  | some d => defScope d.st
  | none => defScope stL
theorem prog_of {P : List Fn} {tf : List He.Defn} {tdl : List Td} {stL : Stmt} {cons : List (Str × D)} {xcl : List (Str × List Str)} {ds : List Dd} {h : Heap} (KX : K.In h) (G0 : h.Ns mainGlobals mg) (hfree : ∀ x ∈ bltNames, mg x = none) (hcon : ∀ p ∈ cons, cnB K p.1 p.2 = true)
    (hdef : ∀ d ∈ ds, mg d.x = some (.ref (He.ga K d.x)) ∧ ∃ fd, FunD K d.x d.x (defArgs d.st) (defBody d.st) (defScope d.st) [] [] (He.ga K d.x) fd) (hok : okAll (ds.map (·.x)) (cnsOf cons) (xcsOf xcl) (tdsOf tdl) tf ds P = true) (hnm : ∀ d ∈ ds, scOf ds stL d.x = defScope d.st)
    (hsup : ∀ p ∈ xcl, xcB K prog.main.file p.1 p.2 = true ∧ mg p.1 = some (.ref (He.ga K p.1)) ∧ (p.1 == ("__debug__" : Str)) = false) (htop : (prog.main.scope.names.lookup ("super" : Str)).isSome = false)
    (nd : (tf.map fun p => (He.cT K p).2).Nodup) (TB : ∀ p ∈ tf.map (He.cT K), TabB base mg p.1 p.2) (hfit : ∀ t ∈ tdl, TdFit xcl t) (htd : ∀ t ∈ tdl, mg t.x = some (.ref (He.ga K t.x)) ∧ (∃ fd, FunD K t.x t.x (defArgs t.st) (defBody t.st) (defScope t.st) [] [] (He.ga K t.x) fd) ∧ catB K t.e (t.o.map (·.2.2)) = true) :
    ProgOk P (gOf cons) (ds.map (·.x)) (cnsOf cons) (xcsOf xcl) (tsOf K tf (scOf ds stL)) (xnOf K xcl) prog w K mg base where
  blt := hfree
  cn := fun i x d h1 h2 => by
    unfold cnsOf at h1
    unfold gOf at h2
    rw [List.getElem?_map] at h1
    obtain ⟨p, e1, rfl⟩ := Option.map_eq_some_iff.mp h1
    rw [e1] at h2
    obtain rfl : p.2 = d := by simpa using h2
    exact cnB_ok KX G0 (hcon p (List.mem_of_getElem? e1))
  fn := fun f x h1 => by
    rw [List.getElem?_map] at h1
    obtain ⟨d, e1, rfl⟩ := Option.map_eq_some_iff.mp h1
    have hdm := List.mem_of_getElem? e1
    obtain ⟨g1, fd, F⟩ := hdef d hdm
    obtain ⟨g, e2, ok⟩ := okAll_at hok f d e1
    cases g with
    | prim g => cases ok
    | body ar n b =>
      unfold okDd at ok
      simp only [Bool.and_eq_true, decide_eq_true_eq] at ok
      obtain ⟨⟨⟨⟨⟨k1, k2⟩, k3⟩, k4⟩, k5⟩, k6⟩ := ok
      refine ⟨_, fd, psOf (defArgs d.st), g1, F.kp, binds_plain F k5, ?_⟩
      unfold DefOk
      rw [e2]
      refine ⟨d.x, d.x, _, _, _, d.N, tdFor (tdsOf tdl) tf d.x, F, C8.fnScope_by k1, k2, k3, k4, k6, ?_⟩
      by_cases hm : (d.x, none) ∈ tf
      · have e : tdFor (tdsOf tdl) tf d.x = tdsOf tdl := if_pos hm
        rw [e]
        exact tdAll_of (hnm d hdm).symm rfl hm nd TB (fun p hp => (hsup p hp).2.1) hfit htd
      · have e : tdFor (tdsOf tdl) tf d.x = [] := if_neg hm
        rw [e]
        exact tdAll_nil
  xc := fun c x ar h1 Φ X W e1 e2 e3 e4 e5 hcalm hr tk => by
    unfold xcsOf at h1
    rw [List.getElem?_map] at h1
    obtain ⟨p, q1, q2⟩ := Option.map_eq_some_iff.mp h1
    obtain ⟨rfl, rfl⟩ := Prod.mk.inj q2
    obtain ⟨k1, k2, k3⟩ := hsup p (List.mem_of_getElem? q1)
    subst e1 e3 e4
    exact all_xc (file := X.prog.main.file) k1 (beq_self_eq_true _) htop (by show (xnOf X.K xcl) c = _; unfold xnOf; rw [q1]; rfl) k2 k3 hcalm hr tk

/-- A ROW'S LAW -/
theorem lawG_of {l : PySem.W.OpenLaw} {h : Heap} {fa : Addr} {kP n : Nat} {P : List Fn} {cons : List (Str × D)} {xcl : List (Str × List Str)} {ds : List Dd} {tdl : List Td} {stS stL : Stmt} {N : List Str} {bL : T} {p0 p1 p2 p3 p4 : Pos} {cs : Scope} {pS : Nat → Pos} {rest : List Stmt}
    (KX : K.In h) (G0 : h.Ns mainGlobals mg) (hmg : mg "law" = some (.ref fa)) (hn : n ≤ sizeLine)
    (hfree : ∀ x ∈ bltNames, mg x = none) (hcon : ∀ p ∈ cons, cnB K p.1 p.2 = true) (tf : List He.Defn)
    (hdef : ∀ d ∈ ds, mg d.x = some (.ref (He.ga K d.x)) ∧ ∃ fd, FunD K d.x d.x (defArgs d.st) (defBody d.st) (defScope d.st) [] [] (He.ga K d.x) fd) (hok : okAll (ds.map (·.x)) (cnsOf cons) (xcsOf xcl) (tdsOf tdl) tf ds P = true) (hnm : ds.all (fun d => !decide (d.x = "law")) = true) (hnd : (ds.map (·.x)).Nodup)
    (hsup : ∀ p ∈ xcl, xcB K l.prog.main.file p.1 p.2 = true ∧ mg p.1 = some (.ref (He.ga K p.1)) ∧ (p.1 == ("__debug__" : Str)) = false) (htop : (l.prog.main.scope.names.lookup ("super" : Str)).isSome = false)
    -- the source
    (gS : mg "_law_source" = some (.ref (He.ga K "_law_source"))) (FS : ∃ fd, FunD K "_law_source" "_law_source" (defArgs stS) (defBody stS) (defScope stS) [] [] (He.ga K "_law_source") fd) (eS : defBody stS = srcBody cs pS) (scS : C8.scC srcN ["script"] (defScope stS) = true) (plS : plainA (defArgs stS) = true) (psS : psOf (defArgs stS) = [("script" : Str)]) (bS : srcB (defScope stS) cs = true)
    -- the law
    (FL : ∃ fd, FunD K "law" "law" (defArgs stL) (defBody stL) (defScope stL) [] [] fa fd) (eL : defBody stL = .Assign [.Name "source" p0] (.Call (.Name "_law_source" p1) [.Name "script" p2] [] p3) p4 :: rest) (scL : C8.scC N ["script"] (defScope stL) = true) (plL : plainA (defArgs stL) = true) (psL : psOf (defArgs stL) = [("script" : Str)])
    (n0 : N[0]? = some ("script" : Str)) (n1 : N[1]? = some ("source" : Str)) (sL : (defScope stL).names.lookup ("source" : Str) = some .local ∨ (defScope stL).names.lookup ("source" : Str) = some .cell) (gL : (defScope stL).names.lookup ("_law_source" : Str) = some .globalImplicit)
    (hc : chkSs N (ds.map (·.x)) (cnsOf cons) (tdFor (tdsOf tdl) tf "law") (xcsOf xcl) (defScope stL) bL rest = true)
    -- what catches
    (hfit : ∀ t ∈ tdl, TdFit xcl t) (htd : ∀ t ∈ tdl, mg t.x = some (.ref (He.ga K t.x)) ∧ (∃ fd, FunD K t.x t.x (defArgs t.st) (defBody t.st) (defScope t.st) [] [] (He.ga K t.x) fd) ∧ catB K t.e (t.o.map (·.2.2)) = true)
    (nd : (tf.map fun p => (He.cT K p).2).Nodup) (hfa : fa = He.ga K "law") (hd : ∀ p ∈ tf, PySem.W.codeHdIn K (He.cT K p).1 (He.cT K p).2 = true) (out : ∀ p ∈ tf, K.lookup (He.cT K p).2 = none) (empty : ∀ p ∈ tf, h.get? (He.cT K p).2 = some emptyT)
    (plain : ∀ s : Src, ∃ o s', evS (Phi P (gOf cons) kP) (gOf cons) bL (lawE N.length) s = .ok (.ret o (.bool true)) s') :
    LawG l w K (3 * kP + 6) n "script" mg fa h := by
  obtain ⟨fdL, FL⟩ := FL
  obtain ⟨fdS, FS⟩ := FS
  have hbS := binds_plain FS plS
  rw [psS] at hbS
  have bA : ∀ (s : Shared) (u : Value), BindsTo s fdL ⟨[u], []⟩ [(("script" : Str), u)] := fun s u => by
    have := FL.bindsA (ps := psOf (defArgs stL)) (fun kV doc pm an cdv ct us hl => bind_plain (fd := PySem.W.fnOf "law" "law" (defArgs stL) (defBody stL) (defScope stL) .none kV doc pm an cdv ct) plL rfl hl) s [u] (by rw [psL]; rfl)
    rw [psL] at this
    exact this
  have scs : ∀ d ∈ ds, scOf ds stL d.x = defScope d.st := fun d hd => by
    unfold scOf
    have h1 := List.all_eq_true.mp hnm d hd
    rw [if_neg (by simpa using h1)]
    have : ∀ l : List Dd, (l.map (·.x)).Nodup → d ∈ l → l.find? (fun d' => d'.x == d.x) = some d := by
      intro l
      induction l with
      | nil => intro _ h; cases h
      | cons a l ih =>
        intro nd h1
        rw [List.map_cons, List.nodup_cons] at nd
        rcases List.mem_cons.mp h1 with rfl | h1
        · exact List.find?_cons_of_pos (beq_self_eq_true _)
        · have ne : a.x ≠ d.x := fun z => nd.1 (by rw [z]; exact List.mem_map.mpr ⟨d, h1, rfl⟩)
          rw [List.find?_cons_of_neg (by simpa using ne)]
          exact ih nd.2 h1
    rw [this ds hnd hd]
  let ts : List (Addr × Str) := tsOf K tf (scOf ds stL)
  refine ⟨fdL, tf.map (He.cT K), spLaw ts K, fun p hp => ?_, fun p hp => ?_, fun p hp => ?_, bA, fun H a ns hl hT hS => ⟨a, ns, rfl, hS, Nat.le_trans hl hn, fun q hq => ?_, fun _ => rfl⟩, fun base KB G1 TB => ?_⟩
  · obtain ⟨q, hq, rfl⟩ := List.mem_map.mp hp
    exact empty q hq
  · obtain ⟨q, hq, rfl⟩ := List.mem_map.mp hp
    exact out q hq
  · obtain ⟨q, hq, rfl⟩ := List.mem_map.mp hp
    exact PySem.W.codeHd_of_K KX (hd q hq)
  · obtain ⟨p, hp, rfl⟩ := List.mem_map.mp hq
    exact TabS.nil (hT _ (List.mem_map.mpr ⟨p, hp, rfl⟩))
  · have pr := prog_of (prog := l.prog) (w := w) (base := base) (P := P) KB G1 hfree hcon hdef hok scs hsup htop nd TB hfit htd
    rw [eS] at FS
    rw [eL] at FL
    refine law_ok (kP := kP) (tds := tdFor (tdsOf tdl) tf "law") pr FL (C8.fnScope_by scL) n0 n1 sL gL ⟨_, fdS, gS, FS.kp, hbS, fun k => src_ok FS (C8.fnScope_by scS) bS (hfree _ (by decide)) (hfree _ (by decide))⟩ hc ?_ plain
    by_cases hm : (("law" : Str), none) ∈ tf
    · have e : tdFor (tdsOf tdl) tf "law" = tdsOf tdl := if_pos hm
      rw [e]
      exact tdAll_of (by unfold scOf; rw [if_pos rfl]) hfa hm nd TB (fun p hp => (hsup p hp).2.1) hfit htd
    · have e : tdFor (tdsOf tdl) tf "law" = [] := if_neg hm
      rw [e]
      exact tdAll_nil
end
end Tre
set_option maxHeartbeats 2000000
/-! TreK: the head's facts, the statics of the machine among them. -/
namespace Tre
open PySem PySem.Spec PyProof.Rows L2

/-- where the facts are looked for -/
def asS (g : Addr → Option Obj) (n : Nat) : List Addr := PySem.cStatics :: He.asD g n
def obsS (n : Nat) (fa : List He.Fa) (fn : List He.DefD) (tf : List He.Defn) (ex : PySem.W.Frag → Bool) (g : Addr → Option Obj) : He.AlX :=
  let K := He.frT g (asS g n)
  (He.obsT fa fn [] K, ex K && He.tabsB g tf K)
theorem says_of {n : Nat} {fa : List He.Fa} {fn : List He.DefD} {tf : List He.Defn} {ex : PySem.W.Frag → Bool} {w : World} {h : Heap} (e : obsS n fa fn tf ex h.get? = He.valX fn [] w) : He.SaysX fa fn [] tf ex w h (He.frT h.get? (asS h.get? n)) := by
  obtain ⟨e1, e2⟩ := Prod.mk.inj e
  obtain ⟨hm, ht⟩ := Bool.and_eq_true_iff.mp e2
  unfold He.tabsB at ht
  rw [List.all_eq_true] at ht
  have one : ∀ p ∈ tf, PySem.W.codeHdIn (He.frT h.get? (asS h.get? n)) (He.cT (He.frT h.get? (asS h.get? n)) p).1 (He.cT (He.frT h.get? (asS h.get? n)) p).2 = true ∧ ∃ o, h.get? (He.cT (He.frT h.get? (asS h.get? n)) p).2 = some o ∧ He.emptyTab o = true := by
    intro p hp
    obtain ⟨a, b⟩ := Bool.and_eq_true_iff.mp (ht p hp)
    refine ⟨a, ?_⟩
    split at b
    · exact ⟨_, by assumption, b⟩
    · cases b
  constructor
  · exact e1
  · exact hm
  · exact fun p hp => (one p hp).1
  · intro p hp
    obtain ⟨_, o, q, z⟩ := one p hp
    exact He.frT_none q z
  · intro p hp
    obtain ⟨_, o, q, z⟩ := one p hp
    exact q.trans (congrArg some (He.emptyTab_eq z))
def hookS (n : Nat) (fa : List He.Fa) (fn : List He.DefD) (tf : List He.Defn) (ex : PySem.W.Frag → Bool) : PySem.W.Hook where
  α := He.AlX
  obs := fun s => obsS n fa fn tf ex s.heap.get?
  val := fun w => He.valX fn [] w
  says := fun w h => ∃ K : PySem.W.Frag, K.In h ∧ He.SaysX fa fn [] tf ex w h K
  of := fun _ _ e => ⟨_, He.frT_in, says_of e⟩
  keeps := fun _ _ _ ⟨K, hK, c⟩ k => ⟨K, hK.keeps k, { c with empty := fun p hp => k _ _ (c.empty p hp) }⟩
theorem obsS_eq {n : Nat} {fa : List He.Fa} {fn : List He.DefD} {tf : List He.Defn} {ex : PySem.W.Frag → Bool} {g : Addr → Option Obj} {s : Shared} (h : ∀ a, g a = s.heap.get? a) : obsS n fa fn tf ex g = (hookS n fa fn tf ex).obs s := by
  obtain rfl : g = s.heap.get? := funext h
  rfl
end Tre
set_option maxHeartbeats 1000000
/-! TreP: laws of the evaluator, for plain laws. -/
namespace Tre
open PySem PySem.Spec PyProof.Rows L2

section
variable {c : Env → Src → R D} {b : Env → Src → R Fl} {z : List Nat}
theorem whN_succ : ∀ (n : Nat) (env : Env) (s : Src) (r : R Fl), whN c b z n env s = some r → whN c b z (n + 1) env s = some r
  | 0, _, _, _, h => by cases h
  | n + 1, env, s, r, h => by
    unfold whN at h ⊢
    cases hc : c (fzE env z) s with
    | ok d s1 =>
      rw [hc] at h
      simp only at h ⊢
      by_cases ht : truth d = true
      · rw [if_pos ht] at h ⊢
        cases hb : b (fzE env z) s1 with
        | ok fl s2 =>
          rw [hb] at h
          cases fl with
          | next env' => exact whN_succ n env' s2 r h
          | cnt env' => exact whN_succ n env' s2 r h
          | brk env' => exact h
          | ret o d => exact h
        | exc k a s2 => rw [hb] at h; exact h
        | stuck => rw [hb] at h; exact h
      · rw [if_neg ht] at h ⊢; exact h
    | exc k a s1 => rw [hc] at h; exact h
    | stuck => rw [hc] at h; exact h
theorem whN_le {n m : Nat} {env : Env} {s : Src} {r : R Fl} (h : whN c b z n env s = some r) (l : n ≤ m) : whN c b z m env s = some r := by
  induction l with
  | refl => exact h
  | step _ ih => exact whN_succ _ _ _ _ ih
theorem whR_of {n : Nat} {env : Env} {s : Src} {r : R Fl} (h : whN c b z n env s = some r) : whR c b z env s = r := by
  have e : ∃ r n, whN c b z n env s = some r := ⟨r, n, h⟩
  unfold whR
  rw [dif_pos e]
  obtain ⟨m, hm⟩ := e.choose_spec
  have h1 := whN_le h (Nat.le_max_left n m)
  have h2 := whN_le hm (Nat.le_max_right n m)
  exact Option.some.inj (h2.symm.trans h1)
theorem whR_end {env : Env} {s s1 : Src} {d : D} (hc : c (fzE env z) s = .ok d s1) (ht : truth d = false) : whR c b z env s = .ok (.next (fzE env z)) s1 := by
  refine whR_of (n := 1) ?_
  unfold whN
  rw [hc]
  simp only [ht]
  rfl
theorem whR_out {env : Env} {s s1 s2 : Src} {d : D} {k : Nat} {a : List D} (hc : c (fzE env z) s = .ok d s1) (ht : truth d = true) (hb : b (fzE env z) s1 = .exc k a s2) : whR c b z env s = .exc k a s2 := by
  refine whR_of (n := 1) ?_
  unfold whN
  rw [hc]
  simp only [ht, if_true]
  rw [hb]
theorem whR_next {env env' : Env} {s s1 s2 : Src} {d : D} (hc : c (fzE env z) s = .ok d s1) (ht : truth d = true) (hb : b (fzE env z) s1 = .ok (.next env') s2) : whR c b z env s = whR c b z env' s2 := by
  have e : ∀ n, whN c b z (n + 1) env s = whN c b z n env' s2 := fun n => by
    conv => lhs; unfold whN
    rw [hc]
    simp only [ht, if_true]
    rw [hb]
  by_cases h : ∃ r n, whN c b z n env' s2 = some r
  · obtain ⟨r, n, h⟩ := h
    rw [whR_of h, whR_of ((e n).trans h)]
  · have h2 : ¬ ∃ r n, whN c b z n env s = some r := fun ⟨r, n, q⟩ => by
      cases n with
      | zero => cases q
      | succ n => exact h ⟨r, n, (e n).symm.trans q⟩
    unfold whR
    rw [dif_neg h, dif_neg h2]
end
section
variable {f : D → Src → R (Option D)}
theorem compL_map {g : D → D} {s : Src} : ∀ {xs : List D}, (∀ x ∈ xs, f x s = .ok (some (g x)) s) → compL f xs s = .ok (xs.map g) s
  | [], _ => rfl
  | x :: xs, h => by
    unfold compL
    rw [h x List.mem_cons_self, R.bind_ok, compL_map fun y hy => h y (List.mem_cons_of_mem _ hy)]
    rfl
theorem compL_filter {p : D → Bool} {s : Src} : ∀ {xs : List D}, (∀ x ∈ xs, f x s = .ok (if p x then some x else none) s) → compL f xs s = .ok (xs.filter p) s
  | [], _ => rfl
  | x :: xs, h => by
    unfold compL
    rw [h x List.mem_cons_self, R.bind_ok, compL_filter fun y hy => h y (List.mem_cons_of_mem _ hy), R.bind_ok]
    cases hp : p x
    · rw [List.filter_cons_of_neg (by rw [hp]; exact Bool.false_ne_true)]; rfl
    · rw [List.filter_cons_of_pos hp]; rfl
theorem compL_inv {Q : D → Prop} : ∀ {xs : List D} {s : Src}, (∀ x ∈ xs, ∀ s, ∃ y s', f x s = .ok (some y) s' ∧ Q y) → ∃ ys s', compL f xs s = .ok ys s' ∧ ys.length = xs.length ∧ ∀ y ∈ ys, Q y
  | [], s, _ => ⟨[], s, rfl, rfl, fun y hy => absurd hy (by simp)⟩
  | x :: xs, s, h => by
    obtain ⟨y, s1, e1, q⟩ := h x List.mem_cons_self s
    obtain ⟨ys, s2, e2, l, qs⟩ := compL_inv (xs := xs) (s := s1) fun z hz => h z (List.mem_cons_of_mem _ hz)
    refine ⟨y :: ys, s2, ?_, by rw [List.length_cons, List.length_cons, l], fun z hz => ?_⟩
    · unfold compL
      rw [e1, R.bind_ok, e2]
      rfl
    · rcases List.mem_cons.mp hz with rfl | hz
      · exact q
      · exact qs z hz
end
theorem forL_inv {f : D → Env → Src → R Fl} {I : Nat → Env → Prop} : ∀ {xs : List D} {i : Nat} {env : Env} {s : Src}, (∀ i x env s, x ∈ xs → I i env → ∃ env' s', f x env s = .ok (.next env') s' ∧ I (i + 1) env') → I i env →
    ∃ env' s', forL f xs env s = .ok (.next env') s' ∧ I (i + xs.length) env'
  | [], i, env, s, _, h => ⟨env, s, rfl, h⟩
  | x :: xs, i, env, s, hf, h => by
    obtain ⟨env1, s1, e1, h1⟩ := hf i x env s List.mem_cons_self h
    obtain ⟨env2, s2, e2, h2⟩ := forL_inv (xs := xs) (i := i + 1) (env := env1) (s := s1) (fun i y env s hy => hf i y env s (List.mem_cons_of_mem _ hy)) h1
    refine ⟨env2, s2, ?_, by rw [List.length_cons, Nat.add_comm xs.length, ← Nat.add_assoc]; exact h2⟩
    unfold forL
    rw [e1]
    exact e2
section
variable {Φ : Nat → List Arg → Src → R (Bool × D)} {Gg : Nat → Option D}
theorem seq_next {a r : T} {env env' : Env} {s s' : Src} (h : evS Φ Gg a env s = .ok (.next env') s') : evS Φ Gg (.seq a r) env s = evS Φ Gg r env' s' := by
  simp only [evS]; rw [h]; rfl
theorem seq_ret {a r : T} {env : Env} {s s' : Src} {o : Bool} {d : D} (h : evS Φ Gg a env s = .ok (.ret o d) s') : evS Φ Gg (.seq a r) env s = .ok (.ret o d) s' := by
  simp only [evS]; rw [h]; rfl
theorem seq_cnt {a r : T} {env env' : Env} {s s' : Src} (h : evS Φ Gg a env s = .ok (.cnt env') s') : evS Φ Gg (.seq a r) env s = .ok (.cnt env') s' := by
  simp only [evS]; rw [h]; rfl
theorem seq_exc {a r : T} {env : Env} {s s' : Src} {c : Nat} {d : List D} (h : evS Φ Gg a env s = .exc c d s') : evS Φ Gg (.seq a r) env s = .exc c d s' := by
  simp only [evS]; rw [h]; rfl
theorem ifs_t {c a b : T} {env : Env} {s s' : Src} {x : Kd × D} (h : evE Φ Gg c env s = .ok x s') (ht : truth x.2 = true) : evS Φ Gg (.ifs c a b) env s = evS Φ Gg a env s' := by
  simp only [evS]; rw [h, R.bind_ok, if_pos ht]
theorem ifs_f {c a b : T} {env : Env} {s s' : Src} {x : Kd × D} (h : evE Φ Gg c env s = .ok x s') (ht : truth x.2 = false) : evS Φ Gg (.ifs c a b) env s = evS Φ Gg b env s' := by
  simp only [evS]; rw [h, R.bind_ok, if_neg (by rw [ht]; exact Bool.false_ne_true)]
end
/-! ### _law_pick, one text in all laws -/
def pickT : T := (.seq (.wh [] (.and (.cmp .Gt (.v 1) (.c (.int 1))) (.and (.cmp .Lt (.srcG 0 0) (.c (.int 2))) (.cmp .Gt (.srcL 0) (.c (.int 0))))) (.seq (.srcP 0) .nil)) (.seq (.asg (.v 2) (.srcG 0 0)) (.seq (.ifs (.or (.cmp .Lt (.v 1) (.c (.int 2))) (.cmp .Gt (.v 2) (.c (.int 1)))) (.seq (.srcS 0 0 (.op .FloorDiv (.v 2) (.bi .max (.cons (.c (.int 1)) (.cons (.v 1) .nil))))) (.seq (.ret (.op .Mod (.bi .int (.cons (.v 2) .nil)) (.bi .max (.cons (.c (.int 1)) (.cons (.v 1) .nil))))) .nil)) .nil) (.seq (.srcS 2 0 (.op .Add (.srcG 2 0) (.c (.int 1)))) (.seq (.asg (.v 3) (.op .Mod (.bi .int (.cons (.op .Add (.srcG 1 0) (.op .Mult (.srcG 2 0) (.c (.int 104729)))) .nil)) (.c (.int 998244353)))) (.seq (.asg (.v 3) (.op .Mod (.bi .int (.cons (.op .Add (.op .Mult (.v 3) (.v 3)) (.op .Mult (.srcG 2 0) (.c (.int 17)))) .nil)) (.c (.int 2147483647)))) (.seq (.srcS 1 0 (.v 3)) (.seq (.ret (.op .Mod (.bi .int (.cons (.op .FloorDiv (.v 3) (.c (.int 16))) .nil)) (.v 1))) .nil))))))))
def pkC : T := (.and (.cmp .Gt (.v 1) (.c (.int 1))) (.and (.cmp .Lt (.srcG 0 0) (.c (.int 2))) (.cmp .Gt (.srcL 0) (.c (.int 0)))))
theorem pick_loop {Φ : Nat → List Arg → Src → R (Bool × D)} {Gg : Nat → Option D} (m : Int) : ∀ (n : Nat) (s : Src), s.cells.length ≤ n → ∃ s', evS Φ Gg (.wh [] pkC (.seq (.srcP 0) .nil)) [.src, .d false (.int m), .e, .e] s = .ok (.next [.src, .d false (.int m), .e, .e]) s' := by
  intro n
  induction n with
  | zero =>
    intro s hs
    refine ⟨s, ?_⟩
    have e : s.cells = [] := List.eq_nil_of_length_eq_zero (by omega)
    simp only [evS]
    refine whR_end (d := .bool false) ?_ rfl
    unfold pkC fzE
    by_cases h1 : 1 < m
    · by_cases h2 : s.left < 2
      · simp [evE, cmpF, i2F, truth, Src.get, R.of, h1, h2, e]
      · simp [evE, cmpF, i2F, truth, Src.get, R.of, h1, h2, e]
    · simp [evE, cmpF, i2F, truth, Src.get, R.of, h1, e]
  | succ n ih =>
    intro s hs
    by_cases h : 1 < m ∧ s.left < 2 ∧ s.cells ≠ []
    · obtain ⟨h1, h2, h3⟩ := h
      obtain ⟨s', e⟩ := ih { s with cells := s.cells.dropLast, left := s.cells.getLast h3 } (by simp; omega)
      refine ⟨s', ?_⟩
      rw [← e]
      simp only [evS]
      have hl : 0 < s.cells.length := List.length_pos_iff.mpr h3
      refine whR_next (d := .bool true) (s1 := s) ?_ rfl ?_
      · unfold pkC fzE
        simp [evE, cmpF, i2F, truth, Src.get, R.of, h1, h2, hl]
      · simp [fzE, List.getLast?_eq_some_getLast h3]
    · refine ⟨s, ?_⟩
      simp only [evS]
      refine whR_end (d := .bool false) ?_ rfl
      unfold pkC fzE
      by_cases h1 : 1 < m
      · by_cases h2 : s.left < 2
        · have h3 : s.cells = [] := Classical.byContradiction fun z => h ⟨h1, h2, z⟩
          simp [evE, cmpF, i2F, truth, Src.get, R.of, h1, h2, h3]
        · simp [evE, cmpF, i2F, truth, Src.get, R.of, h1, h2]
      · simp [evE, cmpF, i2F, truth, Src.get, R.of, h1]
theorem pick_gen {Φ : Nat → List Arg → Src → R (Bool × D)} {Gg : Nat → Option D} (s : Src) (m : Int) (h1 : 1 ≤ m) (h2 : m < 1073741824) : ∃ i s', endF (evS Φ Gg pickT [.src, .d false (.int m), .e, .e] s) = .ok (false, .int i) s' ∧ 0 ≤ i ∧ i < m := by
  unfold pickT
  obtain ⟨s1, e1⟩ := pick_loop (Φ := Φ) (Gg := Gg) m s.cells.length s (Nat.le_refl _)
  unfold pkC at e1
  rw [seq_next e1]
  rw [seq_next (env' := [.src, .d false (.int m), .d false (.int s1.left), .e]) (s' := s1) (by simp [evS, evE, R.of, bindT, putE, Src.get])]
  have hm : (if m > 1 then m else 1) = m := by split <;> omega
  by_cases hc : m < 2 ∨ 1 < s1.left
  · rw [seq_ret (o := false) (d := .int (s1.left % m)) (s' := s1.put 0 (s1.left / m))]
    · exact ⟨_, _, rfl, Int.emod_nonneg _ (by omega), Int.emod_lt_of_pos _ (by omega)⟩
    · rw [ifs_t (x := (.frz, .bool true)) (s' := s1) ?_ rfl]
      · simp [evS, evE, evA, biF, opF, R.of, hm, h2, show 0 < m by omega]
      · rcases hc with hc | hc
        · simp [evE, cmpF, i2F, truth, R.of, hc]
        · by_cases hc2 : m < 2
          · simp [evE, cmpF, i2F, truth, R.of, hc2]
          · simp [evE, cmpF, i2F, truth, R.of, hc, hc2]
  · have g1 : ¬ m < 2 := fun z => hc (.inl z)
    have g2 : ¬ 1 < s1.left := fun z => hc (.inr z)
    rw [seq_next (env' := [.src, .d false (.int m), .d false (.int s1.left), .e]) (s' := s1)]
    · have q1 : ∀ x : Int, cmulB x 104729 = true := fun x => by unfold cmulB; simp
      have q2 : ∀ x : Int, cmulB x 17 = true := fun x => by unfold cmulB; simp
      have q3 : ∀ x : Int, cmulB (x % 998244353) (x % 998244353) = true := fun x => by
        unfold cmulB
        have a1 := Int.emod_nonneg x (show (998244353 : Int) ≠ 0 by decide)
        have a2 := Int.emod_lt_of_pos x (show (0 : Int) < 998244353 by decide)
        simp only [Bool.or_eq_true, Bool.and_eq_true, decide_eq_true_eq]
        left
        constructor <;> omega
      have q0 : 0 < m := by omega
      simp [evS, evE, evA, R.of, Src.get, Src.put, opF, biF, bindT, putE, q0, q1, q2, q3]
      exact ⟨_, ⟨_, rfl⟩, Int.emod_nonneg _ (by omega), Int.emod_lt_of_pos _ q0⟩
    · rw [ifs_f (x := (.frz, .bool false)) (s' := s1) ?_ rfl]
      · rfl
      · simp [evE, cmpF, i2F, truth, R.of, g1, g2]
end Tre
set_option maxHeartbeats 1000000
/-! TreQ: texts and small values for plain laws. -/
namespace Tre
open PySem PySem.Spec PyProof.Rows L2 _root_.SX

abbrev tl (x : Str) : List Nat := x.cps.toList
theorem tl_len (x : Str) : x.length = (tl x).length := rfl
theorem tl_S (l : List Nat) : tl (S l) = l := rfl
theorem tl_app (a b : Str) : tl (a ++ b) = tl a ++ tl b := Array.toList_append
theorem app_S (a b : List Nat) : (S a ++ S b : Str) = S (a ++ b) := S_cat a b
theorem eqF_str (a b : Str) : eqF (.str a) (.str b) = some (a == b) := by simp [eqF, PyData.depth, PyData.eqv]
theorem eqF_int (a b : Int) : eqF (.int a) (.int b) = some (a == b) := by simp [eqF, PyData.depth, PyData.eqv]
theorem in1 (z : Str) (c : Nat) : inF (.str (S [c])) (.str z) = some (decide (c ∈ tl z)) := congrArg some (StrLaws.found_one z c)
theorem atI_nat {α : Type} (xs : List α) (n : Nat) : atI xs (n : Int) = xs[n]? := by
  unfold atI ixN
  rw [if_pos (by omega)]
  by_cases h : n < xs.length
  · rw [if_pos (by omega)]
    simp
  · rw [if_neg (by omega), List.getElem?_eq_none (by omega)]
    rfl
theorem sub_S (x : Str) (n : Nat) : subF (.str x) (.int n) = ((tl x)[n]?).map fun c => .str (S [c]) := by
  show (atI (tl x) (n : Int)).map _ = _
  rw [atI_nat]
theorem cut_S (x : Str) {p q : Nat} (h : q ≤ x.length) (hp : p ≤ q) : cutS x (some (p : Int)) (some (q : Int)) = S (((tl x).drop p).take (q - p)) := by
  unfold cutS
  rw [HT.sIx_nat, HT.sIx_nat, Nat.min_eq_left h, Nat.min_eq_left (by omega)]
theorem opF_str (a b : Str) : opF .Add (.str a) (.str b) = if a.length + b.length ≤ sizeLine then some (.frz, .str (a ++ b)) else none := rfl
theorem inF_tup (x : D) (ds : List D) : inF x (.tuple ds) = if Nat.min (PyData.depthAll ds) x.depth ≤ 64 then some (ds.any fun z => PyData.eqv z x) else none := rfl
theorem inF_lst (x : D) (ds : List D) : inF x (.list ds) = if Nat.min (PyData.depthAll ds) x.depth ≤ 64 then some (ds.any fun z => PyData.eqv z x) else none := rfl
theorem opF_lst (a b : List D) : opF .Add (.list a) (.list b) = if a.length + b.length ≤ sizeLine then some (.own, .list (a ++ b)) else none := rfl
theorem opF_mul (a b : Int) (h : cmulB a b = true) : opF .Mult (.int a) (.int b) = some (.frz, .int (a * b)) := by
  show (if cmulB a b = true then _ else _) = _
  rw [if_pos h]
theorem opF_div (a b : Int) (h : 0 < b) (h2 : b < 1073741824) : opF .FloorDiv (.int a) (.int b) = some (.frz, .int (a / b)) := by
  show (if 0 < b ∧ b < 1073741824 then _ else _) = _
  rw [if_pos ⟨h, h2⟩]
theorem opF_rep (xs : List D) (k : Int) (h : -(2 ^ 63) ≤ k ∧ k ≤ 1000 ∧ xs.length ≤ 1000) : opF .Mult (.tuple xs) (.int k) = some (.frz, .tuple (List.replicate k.toNat xs).flatten) := if_pos h
theorem sizeL : sizeLine = 16777216 := rfl
/-! ### pick, of -/
def ofT (pk : Nat) : T := (.seq (.ret (.sub (.v 1) (.call pk (.csrc 0 (.cons (.bi .len (.cons (.v 1) .nil)) .nil))))) .nil)
abbrev Picks (f : List Arg → Src → R (Bool × D)) : Prop := ∀ (s : Src) (m : Int), 1 ≤ m → m < 1073741824 → ∃ i s', f [.src, .d (.int m)] s = .ok (false, .int i) s' ∧ 0 ≤ i ∧ i < m
abbrev Ofs (f : List Arg → Src → R (Bool × D)) : Prop := ∀ (s : Src) (xs : List D), xs ≠ [] → xs.length < 1073741824 → ∃ x s', f [.src, .d (.list xs)] s = .ok (false, x) s' ∧ x ∈ xs
theorem of_gen {Φ : Nat → List Arg → Src → R (Bool × D)} {Gg : Nat → Option D} {pk : Nat} (hp : Picks (Φ pk)) (s : Src) (xs : List D) (h0 : xs ≠ []) (hl : xs.length < 1073741824) : ∃ x s', endF (evS Φ Gg (ofT pk) [.src, .d false (.list xs)] s) = .ok (false, x) s' ∧ x ∈ xs := by
  have h1 : 0 < xs.length := List.length_pos_iff.mpr h0
  obtain ⟨i, s', e, i0, i1⟩ := hp s xs.length (by omega) (by omega)
  obtain ⟨n, rfl⟩ := Int.eq_ofNat_of_zero_le i0
  have hn : n < xs.length := by omega
  refine ⟨xs[n], s', ?_, List.getElem_mem hn⟩
  have e2 : subF (.list xs) (.int (n : Nat)) = some xs[n] := by
    show atI xs (n : Int) = _
    rw [atI_nat, List.getElem?_eq_getElem hn]
  simp [ofT, evS, evE, evG, evA, biF, R.of, e, e2]
  rfl
/-! ### small values -/
mutual
/-- what may be shown: no dict, no great number -/
def sml : D → Bool
  | .none => true
  | .bool _ => true
  | .int i => decide (i.natAbs < 10 ^ 12)
  | .str x => PyData.strOk x
  | .list xs => smlA xs
  | .tuple xs => smlA xs
  | .dict _ => false
def smlA : List D → Bool
  | [] => true
  | x :: xs => sml x && smlA xs
end
theorem smlA_iff : ∀ {xs : List D}, smlA xs = true ↔ ∀ x ∈ xs, sml x = true
  | [] => by simp [smlA]
  | x :: xs => by simp [smlA, smlA_iff (xs := xs)]
mutual
theorem sml_lay : ∀ {d : D}, sml d = true → d.canLay0 = true
  | .none, _ => rfl
  | .bool _, _ => rfl
  | .int _, _ => rfl
  | .str x, h => by simpa [sml, PyData.canLay0] using h
  | .list xs, h => by simpa [PyData.canLay0] using smlA_lay (by simpa [sml] using h)
  | .tuple xs, h => by simpa [PyData.canLay0] using smlA_lay (by simpa [sml] using h)
  | .dict _, h => by cases h
theorem smlA_lay : ∀ {ds : List D}, smlA ds = true → PyData.canLayAll0 ds = true
  | [], _ => rfl
  | d :: ds, h => by
    have h : sml d = true ∧ smlA ds = true := by simpa [smlA] using h
    simp [PyData.canLayAll0, sml_lay h.1, smlA_lay h.2]
end
mutual
theorem sml_short : ∀ {d : D}, sml d = true → d.intsShort 13 = true
  | .none, _ => rfl
  | .bool _, _ => rfl
  | .int i, h => by
    have h : i.natAbs < 10 ^ 12 := of_decide_eq_true h
    simpa [PyData.intsShort] using PyData.shown_int_le h
  | .str x, _ => rfl
  | .list xs, h => by simpa [PyData.intsShort] using smlA_short (by simpa [sml] using h)
  | .tuple xs, h => by simpa [PyData.intsShort] using smlA_short (by simpa [sml] using h)
  | .dict _, h => by cases h
theorem smlA_short : ∀ {ds : List D}, smlA ds = true → PyData.intsShortAll 13 ds = true
  | [], _ => rfl
  | d :: ds, h => by
    have h : sml d = true ∧ smlA ds = true := by simpa [smlA] using h
    simp [PyData.intsShortAll, sml_short h.1, smlA_short h.2]
end
mutual
theorem sml_show : ∀ {d : D}, sml d = true → d.showable = true
  | .none, _ => rfl
  | .bool _, _ => rfl
  | .int i, h => by
    have h : i.natAbs < 10 ^ 12 := of_decide_eq_true h
    have : i.natAbs.log2 < 1920 := by
      have h2 : i.natAbs < 2 ^ 40 := Nat.lt_trans h (by decide)
      by_cases h3 : i.natAbs = 0
      · rw [h3]; decide
      · have := (Nat.log2_lt h3).mpr h2
        omega
    simpa [PyData.showable] using this
  | .str x, _ => rfl
  | .list xs, h => by simpa [PyData.showable] using smlA_show (by simpa [sml] using h)
  | .tuple xs, h => by simpa [PyData.showable] using smlA_show (by simpa [sml] using h)
  | .dict _, h => by cases h
theorem smlA_show : ∀ {ds : List D}, smlA ds = true → PyData.showableAll ds = true
  | [], _ => rfl
  | d :: ds, h => by
    have h : sml d = true ∧ smlA ds = true := by simpa [smlA] using h
    simp [PyData.showableAll, sml_show h.1, smlA_show h.2]
end
/-- small: d's depth, its weight -/
structure Sm (k w : Nat) (d : D) : Prop where
  s : sml d = true
  dp : d.depth ≤ k
  wt : d.weight ≤ w
theorem Sm.mono {k w k' w' : Nat} {d : D} (h : Sm k w d) (h1 : k ≤ k') (h2 : w ≤ w') : Sm k' w' d := ⟨h.s, Nat.le_trans h.dp h1, Nat.le_trans h.wt h2⟩
theorem shown_ok {k w : Nat} {d : D} (h : Sm k w d) (hk : k ≤ 64) (hw : w ≤ 1048576) : biF .repr [d] = some (.frz, .str d.shown) := by
  have h1 := sml_show h.s
  have h2 : d.depth ≤ 64 := Nat.le_trans h.dp hk
  have h3 := PyData.hasDict_of_canLay d (sml_lay h.s)
  have h4 : d.shown.length ≤ sizeLine := PyData.shown_fits (B := 13) (by decide) (by decide) (PyData.leavesShort_of_canLay0 13 d (sml_lay h.s) (sml_short h.s)) (by have := h.wt; omega)
  show (if d.showable = true ∧ d.depth ≤ 64 ∧ d.hasDict = false ∧ d.shown.length ≤ sizeLine then some (Kd.frz, PyData.str d.shown) else none) = _
  rw [if_pos ⟨h1, h2, h3, h4⟩]
theorem depthAll_le {k : Nat} : ∀ {xs : List D}, (∀ x ∈ xs, x.depth ≤ k) → PyData.depthAll xs ≤ k
  | [], _ => by simp [PyData.depthAll]
  | x :: xs, h => by
    have h1 := h x List.mem_cons_self
    have h2 := depthAll_le fun y hy => h y (List.mem_cons_of_mem x hy)
    simp only [PyData.depthAll]
    omega
theorem weightAll_le {w : Nat} : ∀ {xs : List D}, (∀ x ∈ xs, x.weight ≤ w) → PyData.weightAll xs ≤ (w + 1) * xs.length
  | [], _ => by simp [PyData.weightAll]
  | x :: xs, h => by
    have h1 := h x List.mem_cons_self
    have h2 := weightAll_le fun y hy => h y (List.mem_cons_of_mem x hy)
    simp only [PyData.weightAll, List.length_cons, Nat.mul_add, Nat.mul_one]
    omega
theorem weightAll_app : ∀ (xs ys : List D), PyData.weightAll (xs ++ ys) = PyData.weightAll xs + PyData.weightAll ys
  | [], ys => by simp [PyData.weightAll]
  | x :: xs, ys => by simp only [List.cons_append, PyData.weightAll, weightAll_app xs ys]; omega
theorem Sm.list {k w n : Nat} {xs : List D} (h : ∀ x ∈ xs, Sm k w x) (hn : xs.length ≤ n) : Sm (k + 1) ((w + 1) * n) (.list xs) :=
  ⟨by simpa [sml] using smlA_iff.mpr fun x hx => (h x hx).s, by simpa [PyData.depth] using depthAll_le fun x hx => (h x hx).dp, by
    have := weightAll_le fun x hx => (h x hx).wt
    have h2 : (w + 1) * xs.length ≤ (w + 1) * n := Nat.mul_le_mul_left _ hn
    simp only [PyData.weight]
    omega⟩
theorem Sm.tuple {k w n : Nat} {xs : List D} (h : ∀ x ∈ xs, Sm k w x) (hn : xs.length ≤ n) : Sm (k + 1) ((w + 1) * n) (.tuple xs) :=
  ⟨by simpa [sml] using smlA_iff.mpr fun x hx => (h x hx).s, by simpa [PyData.depth] using depthAll_le fun x hx => (h x hx).dp, by
    have := weightAll_le fun x hx => (h x hx).wt
    have h2 : (w + 1) * xs.length ≤ (w + 1) * n := Nat.mul_le_mul_left _ hn
    simp only [PyData.weight]
    omega⟩
theorem Sm.int {i : Int} (h : i.natAbs < 1000000000) : Sm 0 30 (.int i) := ⟨by simp [sml]; omega, by simp [PyData.depth], by
  simp only [PyData.weight]
  split
  · omega
  · rename_i hz
    have hz : i.natAbs ≠ 0 := fun z => hz (by simp [Int.natAbs_eq_zero.mp z])
    have := (Nat.log2_lt hz).mpr (show i.natAbs < 2 ^ 30 by omega)
    omega⟩
theorem Sm.str {x : Str} {w : Nat} (h : x.length ≤ w) (h2 : PyData.strOk x = true) : Sm 0 w (.str x) := ⟨by simpa [sml] using h2, by simp [PyData.depth], by simp only [PyData.weight]; exact h⟩
theorem Sm.bool {b : Bool} : Sm 0 0 (.bool b) := ⟨rfl, by simp [PyData.depth], by simp [PyData.weight]⟩
theorem Sm.none : Sm 0 0 .none := ⟨rfl, by simp [PyData.depth], by simp [PyData.weight]⟩
theorem ok_app {a b : Str} (h1 : PyData.strOk a = true) (h2 : PyData.strOk b = true) : PyData.strOk (a ++ b) = true := by
  unfold PyData.strOk at *
  show (a.cps ++ b.cps).all _ = true
  rw [Array.all_append, h1, h2]
  rfl
theorem ok_S {l : List Nat} : PyData.strOk (S l) = l.all (· < 0x110000) := by
  unfold PyData.strOk
  rw [← Array.all_toList]
/-! ### comprehensions -/
theorem compL_fm {f : D → Src → R (Option D)} {p : D → Bool} {g : D → D} {s : Src} : ∀ {xs : List D}, (∀ x ∈ xs, f x s = .ok (if p x then some (g x) else none) s) → compL f xs s = .ok ((xs.filter p).map g) s
  | [], _ => rfl
  | x :: xs, h => by
    unfold compL
    rw [h x List.mem_cons_self, R.bind_ok, compL_fm fun y hy => h y (List.mem_cons_of_mem _ hy), R.bind_ok]
    cases hp : p x
    · rw [List.filter_cons_of_neg (by rw [hp]; exact Bool.false_ne_true)]; rfl
    · rw [List.filter_cons_of_pos hp]; rfl
section
variable {Φ : Nat → List Arg → Src → R (Bool × D)} {Gg : Nat → Option D}
theorem lc_gen {tg it cond elt : T} {ws : List Nat} {env : Env} {s s1 : Src} {pk : Bool} {xs : List D} {p : D → Bool} {g : D → D} (hi : evI Φ Gg it env s = .ok (pk, xs) s1) (hl : xs.length ≤ sizeLine)
    (h : ∀ x ∈ xs, ∃ env', bindT tg (.frz, x) (klE env ws) = some env' ∧ (∃ kc, evE Φ Gg cond env' s1 = .ok (kc, .bool (p x)) s1) ∧ (p x = true → ∃ ky, ky ≠ Kd.peek ∧ evE Φ Gg elt env' s1 = .ok (ky, g x) s1)) :
    evE Φ Gg (.lc tg it cond elt ws) env s = .ok (.own, .list ((xs.filter p).map g)) s1 := by
  unfold evE
  rw [hi, R.bind_ok, if_pos hl, compL_fm (p := p) (g := g)]
  · rfl
  · intro x hx
    obtain ⟨env', e1, ⟨kc, e2⟩, e3⟩ := h x hx
    rw [e1, R.of_some, R.bind_ok, e2]
    cases hp : p x with
    | false => rfl
    | true =>
      obtain ⟨ky, hk, e4⟩ := e3 hp
      simp [R.calm, truth, e4, hk]
/-- its elements change the source -/
theorem lc_inv {tg it elt : T} {ws : List Nat} {env : Env} {s s1 : Src} {pk : Bool} {xs : List D} {Q : D → Prop} (hi : evI Φ Gg it env s = .ok (pk, xs) s1) (hl : xs.length ≤ sizeLine)
    (h : ∀ x ∈ xs, ∃ env', bindT tg (.frz, x) (klE env ws) = some env' ∧ ∀ s, ∃ ky y s', ky ≠ Kd.peek ∧ evE Φ Gg elt env' s = .ok (ky, y) s' ∧ Q y) :
    ∃ ys s2, evE Φ Gg (.lc tg it (.c (.bool true)) elt ws) env s = .ok (.own, .list ys) s2 ∧ ys.length = xs.length ∧ ∀ y ∈ ys, Q y := by
  obtain ⟨ys, s2, e, l, q⟩ := compL_inv (f := fun x s => (R.of (bindT tg (.frz, x) (klE env ws)) s).bind fun env' s =>
        (evE Φ Gg (.c (.bool true)) env' s).calm.bind fun b s => if truth b.2 then (evE Φ Gg elt env' s).calm.bind fun y s => (if y.1 = .peek then .stuck else .ok (some y.2) s) else .ok none s) (Q := Q) (xs := xs) (s := s1) (fun x hx s => by
    obtain ⟨env', e1, e2⟩ := h x hx
    obtain ⟨ky, y, s', hk, e3, q⟩ := e2 s
    refine ⟨y, s', ?_, q⟩
    rw [e1, R.of_some, R.bind_ok]
    simp [evE, R.calm, truth, e3, hk])
  refine ⟨ys, s2, ?_, l, q⟩
  unfold evE
  rw [hi, R.bind_ok, if_pos hl, e]
  rfl
end
theorem boolsOf_map (g : D → Bool) : ∀ xs : List D, boolsOf (xs.map fun x => .bool (g x)) = some (xs.map g)
  | [] => rfl
  | x :: xs => by
    rw [List.map_cons, boolsOf, boolsOf_map g xs]
    rfl
theorem eqF_nil (ys : List D) : eqF (.list ys) (.list []) = some ys.isEmpty := by
  unfold eqF
  have h : Nat.min (PyData.depth (.list ys)) (PyData.depth (.list [])) ≤ 64 := Nat.le_trans (Nat.min_le_right _ _) (by simp [PyData.depth, PyData.depthAll])
  rw [if_pos h]
  cases ys <;> rfl
/-! ### one step at a time -/
section
variable {Φ : Nat → List Arg → Src → R (Bool × D)} {Gg : Nat → Option D} {a b c : T} {env : Env} {s s1 s2 : Src}
theorem bi1 {f : BI} {x : Kd × D} {z : Kd × D} (h : evE Φ Gg a env s = .ok x s1) (h2 : biF f [x.2] = some z) : evE Φ Gg (.bi f (.cons a .nil)) env s = .ok z s1 := by
  simp only [evE, evA, h, R.bind_ok, List.map_cons, List.map_nil, h2, R.of_some]
theorem ret_e {k : Kd} {d : D} (h : evE Φ Gg a env s = .ok (k, d) s1) (hk : k ≠ .peek := by decide) : evS Φ Gg (.ret a) env s = .ok (.ret (decide (k = .own)) d) s1 := by
  simp only [evS, h, R.bind_ok, if_neg hk]
theorem cmp_e {o : CmpOp} {x y : Kd × D} {z : Bool} (h1 : evE Φ Gg a env s = .ok x s1) (h2 : evE Φ Gg b env s1 = .ok y s2) (h : cmpF o x.2 y.2 = some z) : evE Φ Gg (.cmp o a b) env s = .ok (.frz, .bool z) s2 := by
  simp only [evE, h1, h2, R.bind_ok, h, Option.map_some, R.of_some]
theorem op_e {o : Operator} {x y z : Kd × D} (h1 : evE Φ Gg a env s = .ok x s1) (h2 : evE Φ Gg b env s1 = .ok y s2) (h : opF o x.2 y.2 = some z) : evE Φ Gg (.op o a b) env s = .ok z s2 := by
  simp only [evE, h1, h2, R.bind_ok, h, R.of_some]
theorem not_e {x : Kd × D} (h : evE Φ Gg a env s = .ok x s1) : evE Φ Gg (.not a) env s = .ok (.frz, .bool (!truth x.2)) s1 := by
  simp only [evE, h, R.bind_ok]
theorem and_t {x : Kd × D} (h : evE Φ Gg a env s = .ok x s1) (ht : truth x.2 = true) : evE Φ Gg (.and a b) env s = evE Φ Gg b env s1 := by
  simp only [evE, h, R.bind_ok, if_pos ht]
theorem and_f {x : Kd × D} (h : evE Φ Gg a env s = .ok x s1) (ht : truth x.2 = false) : evE Φ Gg (.and a b) env s = .ok x s1 := by
  simp only [evE, h, R.bind_ok, ht]
  rfl
theorem or_t {x : Kd × D} (h : evE Φ Gg a env s = .ok x s1) (ht : truth x.2 = true) : evE Φ Gg (.or a b) env s = .ok x s1 := by
  simp only [evE, h, R.bind_ok, if_pos ht]
theorem or_f {x : Kd × D} (h : evE Φ Gg a env s = .ok x s1) (ht : truth x.2 = false) : evE Φ Gg (.or a b) env s = evE Φ Gg b env s1 := by
  simp only [evE, h, R.bind_ok, ht]
  rfl
theorem me1 {m : MI} {x y z : Kd × D} (h1 : evE Φ Gg a env s = .ok x s1) (hs : isStrD x.2 = true) (h2 : evE Φ Gg b env s1 = .ok y s2) (h : meF m x.2 [y.2] = some z) : evE Φ Gg (.me m a (.cons b .nil)) env s = .ok z s2 := by
  simp only [evE, evA, h1, h2, R.bind_ok, if_pos hs, List.map_cons, List.map_nil, h, R.of_some]
theorem asg_e {tg : T} {x : Kd × D} {env' : Env} (h : evE Φ Gg a env s = .ok x s1) (h2 : bindT tg x env = some env') : evS Φ Gg (.asg tg a) env s = .ok (.next env') s1 := by
  simp only [evS, h, R.bind_ok, h2, Option.map_some, R.of_some]
theorem call1 {f : Nat} {x : Kd × D} {o : Bool} {d : D} (h : evE Φ Gg a env s = .ok x s1) (hk : x.1 ≠ .peek) (h2 : Φ f [.d x.2] s1 = .ok (o, d) s2) : evE Φ Gg (.call f (.cons a .nil)) env s = .ok (if o then .own else .frz, d) s2 := by
  simp only [evE, evG, h, R.bind_ok, if_neg hk, h2]
theorem callS {f i : Nat} {o : Bool} {d : D} (h : env[i]? = some .src) (h2 : Φ f [.src] s = .ok (o, d) s2) : evE Φ Gg (.call f (.csrc i .nil)) env s = .ok (if o then .own else .frz, d) s2 := by
  simp only [evE, evG, h, R.bind_ok, h2]
theorem callS1 {f i : Nat} {x : Kd × D} {o : Bool} {d : D} (h : env[i]? = some .src) (h1 : evE Φ Gg a env s = .ok x s1) (hk : x.1 ≠ .peek) (h2 : Φ f [.src, .d x.2] s1 = .ok (o, d) s2) : evE Φ Gg (.call f (.csrc i (.cons a .nil))) env s = .ok (if o then .own else .frz, d) s2 := by
  simp only [evE, evG, h, h1, R.bind_ok, if_neg hk, h2]
theorem v_e {i : Nat} {d : D} (h : env[i]? = some (.d false d)) : evE Φ Gg (.v i) env s = .ok (.frz, d) s := by
  simp only [evE, h]
theorem g_e {i : Nat} {d : D} (h : Gg i = some d) : evE Φ Gg (.g i) env s = .ok (.frz, d) s := by
  simp only [evE, h, Option.map_some, R.of_some]
theorem sub_e {x y : Kd × D} {d : D} (h1 : evE Φ Gg a env s = .ok x s1) (h2 : evE Φ Gg b env s1 = .ok y s2) (h : subF x.2 y.2 = some d) : evE Φ Gg (.sub a b) env s = .ok (.frz, d) s2 := by
  simp only [evE, h1, h2, R.bind_ok, h, Option.map_some, R.of_some]
theorem ev_c {d : D} : evE Φ Gg (.c d) env s = .ok (.frz, d) s := by simp only [evE]
end
theorem forL_invN {f : D → Env → Src → R Fl} {I : Nat → Env → Prop} {N : Nat} : ∀ {xs : List D} {i : Nat} {env : Env} {s : Src}, i + xs.length ≤ N → (∀ i x env s, i < N → x ∈ xs → I i env → ∃ env' s', f x env s = .ok (.next env') s' ∧ I (i + 1) env') → I i env →
    ∃ env' s', forL f xs env s = .ok (.next env') s' ∧ I (i + xs.length) env'
  | [], i, env, s, _, _, h => ⟨env, s, rfl, h⟩
  | x :: xs, i, env, s, hn, hf, h => by
    have hn : i + (xs.length + 1) ≤ N := hn
    obtain ⟨env1, s1, e1, h1⟩ := hf i x env s (by omega) List.mem_cons_self h
    obtain ⟨env2, s2, e2, h2⟩ := forL_invN (xs := xs) (i := i + 1) (env := env1) (s := s1) (by omega) (fun i y env s hi hy => hf i y env s hi (List.mem_cons_of_mem _ hy)) h1
    refine ⟨env2, s2, ?_, by rw [List.length_cons, Nat.add_comm xs.length, ← Nat.add_assoc]; exact h2⟩
    unfold forL
    rw [e1]
    exact e2
section
variable {Φ : Nat → List Arg → Src → R (Bool × D)} {Gg : Nat → Option D} {a b c r tgs : T} {env : Env} {s s1 s2 : Src}
theorem fz_e {is : List Nat} {env' : Env} (h : fzE env is = env') : evS Φ Gg (.fz is r) env s = evS Φ Gg r env' s := by
  simp only [evS, h]
theorem ea_nil : evA Φ Gg .nil env s = .ok [] s := by simp only [evA]
theorem ea_cons {x : Kd × D} {xs : List (Kd × D)} (h : evE Φ Gg a env s = .ok x s1) (h2 : evA Φ Gg r env s1 = .ok xs s2) : evA Φ Gg (.cons a r) env s = .ok (x :: xs) s2 := by
  simp only [evA, h, h2, R.bind_ok]
theorem par_e {es : T} {xs : List (Kd × D)} {env' : Env} (h : evA Φ Gg es env s = .ok xs s1) (h2 : bindP tgs xs env = some env') : evS Φ Gg (.par tgs es) env s = .ok (.next env') s1 := by
  simp only [evS, h, R.bind_ok, h2, Option.map_some, R.of_some]
theorem ife_t {x : Kd × D} (h : evE Φ Gg c env s = .ok x s1) (ht : truth x.2 = true) : evE Φ Gg (.ife c a b) env s = evE Φ Gg a env s1 := by
  simp only [evE, h, R.bind_ok, if_pos ht]
theorem ife_f {x : Kd × D} (h : evE Φ Gg c env s = .ok x s1) (ht : truth x.2 = false) : evE Φ Gg (.ife c a b) env s = evE Φ Gg b env s1 := by
  simp only [evE, h, R.bind_ok, ht]
  rfl
theorem app_e {i : Nat} {xs : List D} {k : Kd} {d : D} (h0 : env[i]? = some (.d true (.list xs))) (h : evE Φ Gg a env s = .ok (k, d) s1) (hk : k ≠ .peek) (hl : xs.length < sizeLine) : evS Φ Gg (.app i a) env s = .ok (.next (env.set i (.d true (.list (xs ++ [d]))))) s1 := by
  simp only [evS, ownL, h0, h, R.bind_ok, if_neg hk, if_pos hl]
theorem vo_e {i : Nat} {d : D} (h : env[i]? = some (.d true d)) : evE Φ Gg (.v i) env s = .ok (.peek, d) s := by
  simp only [evE, h]
theorem lst_e {es : T} {xs : List (Kd × D)} {ds : List D} (h : evA Φ Gg es env s = .ok xs s1) (h2 : noPeek xs = some ds) (hl : ds.length ≤ sizeLine) : evE Φ Gg (.lst es) env s = .ok (.own, .list ds) s1 := by
  simp only [evE, h, R.bind_ok, h2, Option.bind_some, if_pos hl, R.of_some]
end
theorem enu_mem {x : D} : ∀ {ys : List D} {i : Nat}, x ∈ enuD i ys → ∃ (j : Nat) (y : D), x = .tuple [.int j, y] ∧ y ∈ ys ∧ j < i + ys.length
  | y :: ys, i, h => by
    rcases List.mem_cons.mp (show x ∈ .tuple [.int (i : Nat), y] :: enuD (i + 1) ys from h) with rfl | h
    · exact ⟨i, y, rfl, List.mem_cons_self, by simp⟩
    · obtain ⟨j, z, e, hz, hj⟩ := enu_mem h
      exact ⟨j, z, e, List.mem_cons_of_mem _ hz, by rw [List.length_cons]; omega⟩
theorem enu_len : ∀ (ys : List D) (i : Nat), (enuD i ys).length = ys.length
  | [], _ => rfl
  | y :: ys, i => by
    show (enuD (i + 1) ys).length + 1 = ys.length + 1
    rw [enu_len ys]
end Tre
/-! Pol1: series over a commutative ring; they are a commutative ring. -/
namespace Pol
open Lean.Grind
universe u
@[ext] structure Ser (R : Type u) where
  c : Nat → R
section
variable {R : Type u} [CommRing R]
def mulF (f g : Nat → R) : Nat → R
  | 0 => f 0 * g 0
  | n + 1 => f 0 * g (n + 1) + mulF (fun i => f (i + 1)) g n
theorem add_mulF (f f' g : Nat → R) (n : Nat) : mulF (fun i => f i + f' i) g n = mulF f g n + mulF f' g n := by
  induction n generalizing f f' with
  | zero => simp only [mulF]; grind
  | succ n ih =>
    simp only [mulF]
    rw [ih]
    grind
theorem sm_mulF (a : R) (f g : Nat → R) (n : Nat) : mulF (fun i => a * f i) g n = a * mulF f g n := by
  induction n generalizing f with
  | zero => simp only [mulF]; grind
  | succ n ih =>
    simp only [mulF]
    rw [ih]
    grind
theorem mulF_last (f g : Nat → R) (n : Nat) : mulF f g (n + 1) = f (n + 1) * g 0 + mulF f (fun i => g (i + 1)) n := by
  induction n generalizing f with
  | zero => simp only [mulF]; grind
  | succ n ih =>
    rw [mulF, ih, mulF]
    grind
theorem mulF_comm (f g : Nat → R) (n : Nat) : mulF f g n = mulF g f n := by
  induction n generalizing f with
  | zero => simp only [mulF]; grind
  | succ n ih =>
    rw [mulF_last g f, mulF, ih]
    grind
theorem mulF_assoc (f g h : Nat → R) (n : Nat) : mulF (mulF f g) h n = mulF f (mulF g h) n := by
  induction n generalizing f with
  | zero => simp only [mulF]; grind
  | succ n ih =>
    show f 0 * g 0 * h (n + 1) + mulF (fun i => f 0 * g (i + 1) + mulF (fun i => f (i + 1)) g i) h n = f 0 * (g 0 * h (n + 1) + mulF (fun i => g (i + 1)) h n) + mulF (fun i => f (i + 1)) (mulF g h) n
    rw [add_mulF, sm_mulF]
    have := ih (fun i => f (i + 1))
    rw [this]
    grind
theorem zero_mulF (g : Nat → R) (n : Nat) : mulF (fun _ => 0) g n = 0 := by
  induction n with
  | zero => simp only [mulF]; grind
  | succ n ih =>
    simp only [mulF]
    rw [ih]
    grind
def oneF : Nat → R := fun n => if n = 0 then 1 else 0
theorem one_mulF (g : Nat → R) (n : Nat) : mulF oneF g n = g n := by
  cases n with
  | zero => simp only [mulF, oneF]; grind
  | succ n =>
    have e : (fun i => oneF (i + 1)) = (fun _ => (0 : R)) := by
      funext i
      simp [oneF]
    rw [mulF, e, zero_mulF]
    simp only [oneF]
    grind
instance : Add (Ser R) := ⟨fun f g => ⟨fun n => f.c n + g.c n⟩⟩
instance : Mul (Ser R) := ⟨fun f g => ⟨mulF f.c g.c⟩⟩
instance : Neg (Ser R) := ⟨fun f => ⟨fun n => - f.c n⟩⟩
instance : Sub (Ser R) := ⟨fun f g => ⟨fun n => f.c n - g.c n⟩⟩
def cst (a : R) : Ser R := ⟨fun n => if n = 0 then a else 0⟩
def nc (n : Nat) : R := (Semiring.natCast (α := R)).natCast n
def ic (n : Int) : R := (Ring.intCast (α := R)).intCast n
instance : NatCast (Ser R) := ⟨fun n => cst (nc n)⟩
instance (n : Nat) : OfNat (Ser R) n := ⟨cst (OfNat.ofNat n)⟩
instance : IntCast (Ser R) := ⟨fun n => cst (ic n)⟩
def npowS (f : Ser R) : Nat → Ser R
  | 0 => 1
  | n + 1 => npowS f n * f
instance : HPow (Ser R) Nat (Ser R) := ⟨npowS⟩
instance : SMul Nat (Ser R) := ⟨fun n f => (n : Ser R) * f⟩
instance : SMul Int (Ser R) := ⟨fun n f => (n : Ser R) * f⟩
theorem add_c (f g : Ser R) (n : Nat) : (f + g).c n = f.c n + g.c n := rfl
theorem sub_c (f g : Ser R) (n : Nat) : (f - g).c n = f.c n - g.c n := rfl
theorem neg_c (f : Ser R) (n : Nat) : (-f).c n = - f.c n := rfl
theorem mul_c (f g : Ser R) (n : Nat) : (f * g).c n = mulF f.c g.c n := rfl
theorem cst_c (a : R) (n : Nat) : (cst a).c n = if n = 0 then a else 0 := rfl
theorem one_eq : (1 : Ser R) = ⟨oneF⟩ := by
  ext n
  show (if n = 0 then (OfNat.ofNat 1 : R) else 0) = if n = 0 then 1 else 0
  rfl
theorem zero_eq : (0 : Ser R) = ⟨fun _ => 0⟩ := by
  ext n
  show (if n = 0 then (OfNat.ofNat 0 : R) else 0) = 0
  split <;> rfl
theorem zero_c (n : Nat) : (0 : Ser R).c n = 0 := by rw [zero_eq]
theorem one_c (n : Nat) : (1 : Ser R).c n = if n = 0 then 1 else 0 := by rw [one_eq]; rfl
theorem cst_mul (a : R) (f : Ser R) : cst a * f = ⟨fun n => a * f.c n⟩ := by
  ext n
  rw [mul_c]
  have e : (cst a : Ser R).c = fun n => a * oneF n := by
    funext n
    rw [cst_c]
    unfold oneF
    split <;> grind
  rw [e, sm_mulF, one_mulF]
theorem mul_commS (f g : Ser R) : f * g = g * f := by
  ext n
  rw [mul_c, mul_c, mulF_comm]
instance : CommRing (Ser R) where
  add_zero f := by
    ext n
    rw [add_c, zero_c]; grind
  add_comm f g := by
    ext n
    rw [add_c, add_c]; grind
  add_assoc f g h := by
    ext n
    simp only [add_c]; grind
  mul_assoc f g h := by
    ext n
    rw [mul_c, mul_c]
    exact mulF_assoc f.c g.c h.c n
  mul_comm := mul_commS
  mul_one f := by
    rw [mul_commS]
    ext n
    rw [mul_c, one_eq, one_mulF]
  one_mul f := by
    ext n
    rw [mul_c, one_eq, one_mulF]
  right_distrib f g h := by
    ext n
    rw [add_c, mul_c, mul_c, mul_c]
    exact add_mulF f.c g.c h.c n
  left_distrib f g h := by
    rw [mul_commS f, mul_commS f g, mul_commS f h]
    ext n
    rw [add_c, mul_c, mul_c, mul_c]
    exact add_mulF g.c h.c f.c n
  zero_mul f := by
    ext n
    rw [mul_c, zero_eq, zero_mulF]
  mul_zero f := by
    rw [mul_commS]
    ext n
    rw [mul_c, zero_eq, zero_mulF]
  pow_zero f := rfl
  pow_succ f n := rfl
  ofNat_succ n := by
    ext m
    show (if m = 0 then (OfNat.ofNat (n + 1) : R) else 0) = (if m = 0 then (OfNat.ofNat n : R) else 0) + (if m = 0 then (OfNat.ofNat 1 : R) else 0)
    have := Semiring.ofNat_succ (α := R) n
    split <;> grind
  ofNat_eq_natCast n := by
    ext m
    show (if m = 0 then (OfNat.ofNat n : R) else 0) = (if m = 0 then nc n else 0)
    have : (OfNat.ofNat n : R) = nc n := Semiring.ofNat_eq_natCast n
    rw [this]
  nsmul_eq_natCast_mul n f := rfl
  neg_add_cancel f := by
    ext n
    rw [add_c, neg_c, zero_c]; grind
  sub_eq_add_neg f g := by
    ext n
    rw [sub_c, add_c, neg_c]; grind
  neg_zsmul i f := by
    show cst (ic (-i)) * f = -(cst (ic i) * f)
    rw [cst_mul, cst_mul]
    ext n
    show ic (-i) * f.c n = -(ic i * f.c n)
    have : (ic (-i) : R) = - ic i := Ring.intCast_neg i
    rw [this]
    grind
  zsmul_natCast_eq_nsmul n f := by
    show cst (ic (n : Int)) * f = cst (nc n) * f
    have : (ic (n : Int) : R) = nc n := Ring.intCast_natCast n
    rw [this]
  intCast_ofNat n := by
    ext m
    show (if m = 0 then (ic (OfNat.ofNat n) : R) else 0) = (if m = 0 then (OfNat.ofNat n : R) else 0)
    have : (ic (OfNat.ofNat n) : R) = OfNat.ofNat n := Ring.intCast_ofNat n
    rw [this]
  intCast_neg i := by
    ext m
    show (if m = 0 then (ic (-i) : R) else 0) = -(if m = 0 then ic i else 0)
    have : (ic (-i) : R) = - ic i := Ring.intCast_neg i
    rw [this]
    split <;> grind
example (f g h : Ser R) : (f + g) * h - g * h = h * f := by grind
end
end Pol
/-! Pol2: over a field: no divisors of zero, division, coprime ones, fractions in least terms. -/
namespace Pol
open Lean.Grind
universe u
structure Fld (R : Type u) [CommRing R] : Prop where
  inv : ∀ a : R, a ≠ 0 → ∃ b, a * b = 1
  ne : (0 : R) ≠ 1
section
variable {R : Type u} [CommRing R]
theorem Fld.nz (F : Fld R) {a b : R} (ha : a ≠ 0) (hb : b ≠ 0) : a * b ≠ 0 := fun z => by
  obtain ⟨c, hc⟩ := F.inv a ha
  exact hb (by grind)
/-! ### lowest numbers -/
theorem low0 {f g : Nat → R} {b : Nat} (h : ∀ i, i < b → g i = 0) : mulF f g b = f 0 * g b ∧ ∀ i, i < b → mulF f g i = 0 := by
  induction b generalizing g with
  | zero => exact ⟨rfl, fun i hi => absurd hi (Nat.not_lt_zero _)⟩
  | succ b ih =>
    obtain ⟨h1, h2⟩ := ih (g := fun i => g (i + 1)) fun i hi => h (i + 1) (by omega)
    have g0 := h 0 (by omega)
    refine ⟨?_, fun i hi => ?_⟩
    · rw [mulF_last, h1, g0]; grind
    · cases i with
      | zero => simp only [mulF]; grind
      | succ i =>
        rw [mulF_last, h2 i (by omega), g0]; grind
theorem low {f g : Nat → R} {a b : Nat} (hf : ∀ i, i < a → f i = 0) (h : ∀ i, i < b → g i = 0) : mulF f g (a + b) = f a * g b ∧ ∀ i, i < a + b → mulF f g i = 0 := by
  induction a generalizing f with
  | zero =>
    rw [Nat.zero_add]
    exact low0 h
  | succ a ih =>
    obtain ⟨h1, h2⟩ := ih (f := fun i => f (i + 1)) fun i hi => hf (i + 1) (by omega)
    have f0 := hf 0 (by omega)
    have e : a + 1 + b = (a + b) + 1 := by omega
    rw [e]
    refine ⟨?_, fun i hi => ?_⟩
    · rw [mulF, h1, f0]; grind
    · cases i with
      | zero => simp only [mulF]; grind
      | succ i =>
        rw [mulF, h2 i (by omega), f0]; grind
/-- v is f's power -/
def Val (f : Ser R) (v : Nat) : Prop := f.c v ≠ 0 ∧ ∀ i, i < v → f.c i = 0
theorem Val.mul (F : Fld R) {f g : Ser R} {v w : Nat} (hf : Val f v) (hg : Val g w) : Val (f * g) (v + w) := by
  obtain ⟨h1, h2⟩ := low hf.2 hg.2
  exact ⟨by rw [mul_c, h1]; exact F.nz hf.1 hg.1, fun i hi => by rw [mul_c]; exact h2 i hi⟩
theorem Val.uniq {f : Ser R} {v w : Nat} (h1 : Val f v) (h2 : Val f w) : v = w := by
  rcases Nat.lt_trichotomy v w with h | h | h
  · exact absurd (h2.2 v h) h1.1
  · exact h
  · exact absurd (h1.2 w h) h2.1
theorem Val.of {f : Ser R} {n : Nat} (h : f.c n ≠ 0) : ∃ v, v ≤ n ∧ Val f v := by
  induction n using Nat.strongRecOn with
  | _ n ih =>
    by_cases hz : ∃ i, i < n ∧ f.c i ≠ 0
    · obtain ⟨i, hi, h2⟩ := hz
      obtain ⟨v, hv, h3⟩ := ih i hi h2
      exact ⟨v, by omega, h3⟩
    · exact ⟨n, Nat.le_refl _, h, fun i hi => Classical.byContradiction fun z => hz ⟨i, hi, z⟩⟩
theorem nz_iff {f : Ser R} : f ≠ 0 ↔ ∃ n, f.c n ≠ 0 := by
  refine ⟨fun h => Classical.byContradiction fun z => h ?_, fun ⟨n, h⟩ e => h (by rw [e, zero_c])⟩
  ext n
  rw [zero_c]
  exact Classical.byContradiction fun w => z ⟨n, w⟩
theorem Val.some {f : Ser R} (h : f ≠ 0) : ∃ v, Val f v := by
  obtain ⟨n, h⟩ := nz_iff.mp h
  obtain ⟨v, _, h⟩ := Val.of h
  exact ⟨v, h⟩
theorem Val.nz {f : Ser R} {v : Nat} (h : Val f v) : f ≠ 0 := nz_iff.mpr ⟨v, h.1⟩
theorem ser_nz (F : Fld R) {f g : Ser R} (hf : f ≠ 0) (hg : g ≠ 0) : f * g ≠ 0 := by
  obtain ⟨v, hv⟩ := Val.some hf
  obtain ⟨w, hw⟩ := Val.some hg
  exact (hv.mul F hw).nz
theorem cancel (F : Fld R) {f g h : Ser R} (hf : f ≠ 0) (e : f * g = f * h) : g = h := by
  refine Classical.byContradiction fun z => ?_
  have h1 : g - h ≠ 0 := fun y => z (by grind)
  exact ser_nz F hf h1 (by grind)
/-! ### greatest numbers -/
def Le (f : Ser R) (n : Nat) : Prop := ∀ i, n ≤ i → f.c i = 0
def Fs (f : Ser R) : Prop := ∃ n, Le f n
theorem Le.mono {f : Ser R} {n m : Nat} (h : Le f n) (l : n ≤ m) : Le f m := fun i hi => h i (by omega)
theorem Le.add {f g : Ser R} {n : Nat} (h1 : Le f n) (h2 : Le g n) : Le (f + g) n := fun i hi => by
  rw [add_c, h1 i hi, h2 i hi]; grind
theorem Le.sub {f g : Ser R} {n : Nat} (h1 : Le f n) (h2 : Le g n) : Le (f - g) n := fun i hi => by
  rw [sub_c, h1 i hi, h2 i hi]; grind
theorem high {f g : Nat → R} {a b : Nat} (hf : ∀ i, a + 1 ≤ i → f i = 0) (h : ∀ i, b + 1 ≤ i → g i = 0) : mulF f g (a + b) = f a * g b ∧ ∀ i, a + b < i → mulF f g i = 0 := by
  induction a generalizing f with
  | zero =>
    have z : (fun i => f (i + 1)) = fun _ => (0 : R) := by
      funext i
      exact hf (i + 1) (by omega)
    have e : ∀ i, mulF f g i = f 0 * g i := fun i => by
      cases i with
      | zero => rfl
      | succ i =>
        rw [mulF, z, zero_mulF]; grind
    rw [Nat.zero_add]
    refine ⟨e b, fun i hi => ?_⟩
    rw [e, h i (by omega)]; grind
  | succ a ih =>
    obtain ⟨h1, h2⟩ := ih (f := fun i => f (i + 1)) fun i hi => hf (i + 1) (by omega)
    have e : a + 1 + b = (a + b) + 1 := by omega
    rw [e]
    refine ⟨?_, fun i hi => ?_⟩
    · rw [mulF, h1, h (a + b + 1) (by omega)]; grind
    · cases i with
      | zero => omega
      | succ i =>
        rw [mulF, h2 i (by omega), h (i + 1) (by omega)]; grind
theorem Le.mul {f g : Ser R} {a b : Nat} (h1 : Le f (a + 1)) (h2 : Le g (b + 1)) : Le (f * g) (a + b + 1) := fun i hi => (high h1 h2).2 i (by omega)
theorem Fs.add {f g : Ser R} (h1 : Fs f) (h2 : Fs g) : Fs (f + g) := by
  obtain ⟨a, ha⟩ := h1
  obtain ⟨b, hb⟩ := h2
  exact ⟨a + b, (ha.mono (by omega)).add (hb.mono (by omega))⟩
theorem Fs.sub {f g : Ser R} (h1 : Fs f) (h2 : Fs g) : Fs (f - g) := by
  obtain ⟨a, ha⟩ := h1
  obtain ⟨b, hb⟩ := h2
  exact ⟨a + b, (ha.mono (by omega)).sub (hb.mono (by omega))⟩
theorem Fs.mul {f g : Ser R} (h1 : Fs f) (h2 : Fs g) : Fs (f * g) := by
  obtain ⟨a, ha⟩ := h1
  obtain ⟨b, hb⟩ := h2
  exact ⟨a + b + 1, Le.mul (ha.mono (by omega)) (hb.mono (by omega))⟩
theorem Fs.cst (a : R) : Fs (cst a) := ⟨1, fun i hi => by rw [cst_c, if_neg (by omega)]⟩
theorem Fs.zero : Fs (0 : Ser R) := ⟨0, fun i _ => zero_c i⟩
theorem Fs.one : Fs (1 : Ser R) := ⟨1, fun i hi => by rw [one_c, if_neg (by omega)]⟩
/-- m is f's degree -/
def Deg (f : Ser R) (m : Nat) : Prop := f.c m ≠ 0 ∧ Le f (m + 1)
theorem Deg.some {f : Ser R} (h : Fs f) (hz : f ≠ 0) : ∃ m, Deg f m := by
  obtain ⟨n, hn⟩ := h
  induction n with
  | zero => exact absurd (by ext i; rw [zero_c]; exact hn i (by omega)) hz
  | succ n ih =>
    by_cases h : f.c n = 0
    · exact ih fun i hi => by
        by_cases e : i = n
        · rw [e]; exact h
        · exact hn i (by omega)
    · exact ⟨n, h, hn⟩
theorem Deg.mul (F : Fld R) {f g : Ser R} {a b : Nat} (h1 : Deg f a) (h2 : Deg g b) : Deg (f * g) (a + b) :=
  ⟨by rw [mul_c, (high h1.2 h2.2).1]; exact F.nz h1.1 h2.1, h1.2.mul h2.2⟩
theorem Deg.uniq {f : Ser R} {a b : Nat} (h1 : Deg f a) (h2 : Deg f b) : a = b := by
  rcases Nat.lt_trichotomy a b with h | h | h
  · exact absurd (h1.2 b (by omega)) h2.1
  · exact h
  · exact absurd (h2.2 a (by omega)) h1.1
/-- ONE QUOTIENT, ONE REST -/
theorem div_uniq (F : Fld R) {g q q' r r' : Ser R} {m : Nat} (hg : Deg g m) (h1 : Le r m) (h2 : Le r' m) (hq : Fs q) (hq' : Fs q') (e : q * g + r = q' * g + r') : q = q' ∧ r = r' := by
  have key : q = q' := Classical.byContradiction fun z => by
    have hd : q - q' ≠ 0 := fun y => z (by grind)
    obtain ⟨k, hk⟩ := Deg.some (hq.sub hq') hd
    have h3 := hk.mul F hg
    have e2 : (q - q') * g = r' - r := by grind
    rw [e2] at h3
    exact h3.1 ((h2.sub h1) (k + m) (by omega))
  subst key
  exact ⟨rfl, by grind⟩
/-! ### coprime ones -/
def Cop (a b : Ser R) : Prop := ∃ u v, Fs u ∧ Fs v ∧ u * a + v * b = 1
def Dv (b c : Ser R) : Prop := ∃ t, Fs t ∧ c = b * t
theorem Cop.dv {a b c : Ser R} (h : Cop a b) (hc : Fs c) (hd : Dv b (a * c)) : Dv b c := by
  obtain ⟨u, v, hu, hv, e⟩ := h
  obtain ⟨t, ht, e2⟩ := hd
  exact ⟨u * t + v * c, (hu.mul ht).add (hv.mul hc), by grind⟩
theorem Cop.symm {a b : Ser R} (h : Cop a b) : Cop b a := by
  obtain ⟨u, v, hu, hv, e⟩ := h
  exact ⟨v, u, hv, hu, by grind⟩
/-- a fraction in least terms -/
structure Red (a b : Ser R) : Prop where
  fa : Fs a
  fb : Fs b
  b0 : b.c 0 = 1
  cop : Cop a b
theorem nz0 (F : Fld R) {b : Ser R} (h : b.c 0 = 1) : b ≠ 0 := nz_iff.mpr ⟨0, by rw [h]; exact fun z => F.ne z.symm⟩
/-- ONE FRACTION IN LEAST TERMS -/
theorem Red.uniq (F : Fld R) {a b a' b' : Ser R} (h : Red a b) (h' : Red a' b') (e : a * b' = a' * b) : a = a' ∧ b = b' := by
  have z1 := nz0 F h.b0
  have z2 := nz0 F h'.b0
  obtain ⟨t, ht, e1⟩ := h.cop.dv h'.fb ⟨a', h'.fa, by grind⟩
  obtain ⟨t', ht', e2⟩ := h'.cop.dv h.fb ⟨a, h.fa, by grind⟩
  have e3 : t * t' = 1 := cancel F z1 (by grind)
  have zt : t ≠ 0 := fun z => F.ne (by
    have : (1 : Ser R) = 0 := by grind
    have h0 : (1 : Ser R).c 0 = (0 : Ser R).c 0 := by rw [this]
    rw [one_c, zero_c, if_pos rfl] at h0
    exact h0.symm)
  have zt' : t' ≠ 0 := fun z => F.ne (by
    have : (1 : Ser R) = 0 := by grind
    have h0 : (1 : Ser R).c 0 = (0 : Ser R).c 0 := by rw [this]
    rw [one_c, zero_c, if_pos rfl] at h0
    exact h0.symm)
  obtain ⟨m, hm⟩ := Deg.some ht zt
  obtain ⟨m', hm'⟩ := Deg.some ht' zt'
  have d := hm.mul F hm'
  rw [e3] at d
  have hz : m + m' = 0 := Classical.byContradiction fun z => d.1 (by rw [one_c, if_neg z])
  have hm0 : m = 0 := by omega
  subst hm0
  have t0 : t.c 0 = 1 := by
    have h1 : (b * t).c 0 = b.c 0 * t.c 0 := rfl
    rw [← e1, h'.b0, h.b0] at h1
    grind
  have et : t = 1 := by
    ext i
    rw [one_c]
    by_cases hi : i = 0
    · rw [hi, if_pos rfl, t0]
    · rw [if_neg hi]
      exact hm.2 i (by omega)
  have eb : b' = b := by rw [e1, et]; grind
  subst eb
  exact ⟨cancel F z1 (by grind), rfl⟩
/-- s is the row of a/b -/
def Row (a b s : Ser R) : Prop := b * s = a
theorem Row.uniq (F : Fld R) {a b s s' : Ser R} (hb : b ≠ 0) (h : Row a b s) (h' : Row a b s') : s = s' := cancel F hb (h.trans h'.symm)
end
end Pol
/-! Pol3: greatest divisors, fractions told, lists of numbers. -/
namespace Pol
open Lean.Grind
universe u
section
variable {R : Type u} [CommRing R]
theorem cst_ser_mul (a : R) (f : Ser R) (n : Nat) : (cst a * f).c n = a * f.c n := by rw [cst_mul]
theorem c0_mul (f g : Ser R) : (f * g).c 0 = f.c 0 * g.c 0 := rfl
/-- d is a greatest divisor -/
structure Gcd (f g d : Ser R) : Prop where
  df : Dv d f
  dg : Dv d g
  bz : ∃ u v, Fs u ∧ Fs v ∧ u * f + v * g = d
theorem Gcd.base (f : Ser R) : Gcd f 0 f := ⟨⟨1, Fs.one, by grind⟩, ⟨0, Fs.zero, by grind⟩, 1, 0, Fs.one, Fs.zero, by grind⟩
theorem Gcd.step {f g q r d : Ser R} (hq : Fs q) (e : f = q * g + r) (h : Gcd g r d) : Gcd f g d := by
  obtain ⟨⟨s, hs, e1⟩, ⟨t, ht, e2⟩, u, v, hu, hv, e3⟩ := h
  exact ⟨⟨q * s + t, (hq.mul hs).add ht, by grind⟩, ⟨s, hs, e1⟩, v, u - v * q, hv, hu.sub (hv.mul hq), by grind⟩
theorem Gcd.unit {f g d : Ser R} {a b : R} (h : Gcd f g d) (hab : a * b = 1) : Gcd f g (cst a * d) := by
  obtain ⟨⟨s, hs, e1⟩, ⟨t, ht, e2⟩, u, v, hu, hv, e3⟩ := h
  have e : (cst a * cst b : Ser R) = 1 := by
    ext n
    rw [cst_ser_mul, cst_c, one_c]
    split
    · exact hab
    · grind
  exact ⟨⟨cst b * s, (Fs.cst b).mul hs, by grind⟩, ⟨cst b * t, (Fs.cst b).mul ht, by grind⟩, cst a * u, cst a * v, (Fs.cst a).mul hu, (Fs.cst a).mul hv, by grind⟩
theorem Gcd.nz {f g d : Ser R} (h : Gcd f g d) (hz : f ≠ 0 ∨ g ≠ 0) : d ≠ 0 := fun z => by
  obtain ⟨⟨s, hs, e1⟩, ⟨t, ht, e2⟩, _⟩ := h
  rcases hz with h | h
  · exact h (by grind)
  · exact h (by grind)
theorem Gcd.fs {f g d : Ser R} (hf : Fs f) (hg : Fs g) (h : Gcd f g d) : Fs d := by
  obtain ⟨_, _, u, v, hu, hv, e⟩ := h
  rw [← e]
  exact (hu.mul hf).add (hv.mul hg)
/-- ONE THAT BEGINS WITH 1 FROM ABOVE -/
theorem Gcd.uniq (F : Fld R) {f g d d' : Ser R} (h : Gcd f g d) (h' : Gcd f g d') {m m' : Nat} (hm : Deg d m) (hm' : Deg d' m') (l : d.c m = 1) (l' : d'.c m' = 1) : d = d' := by
  obtain ⟨⟨s, hs, e1⟩, ⟨t, ht, e2⟩, u, v, hu, hv, e3⟩ := h
  obtain ⟨⟨s', hs', e1'⟩, ⟨t', ht', e2'⟩, u', v', hu', hv', e3'⟩ := h'
  -- each divides the other
  have a1 : d' = d * (u' * s + v' * t) := by grind
  have a2 : d = d' * (u * s' + v * t') := by grind
  have x1 : Fs (u' * s + v' * t) := (hu'.mul hs).add (hv'.mul ht)
  have x2 : Fs (u * s' + v * t') := (hu.mul hs').add (hv.mul ht')
  generalize u' * s + v' * t = w at *
  generalize u * s' + v * t' = w' at *
  have zd : d ≠ 0 := nz_iff.mpr ⟨m, hm.1⟩
  have e3 : w * w' = 1 := cancel F zd (by grind)
  have zw : ∀ x y : Ser R, x * y = 1 → x ≠ 0 := fun x y e z => F.ne (by
    have : (1 : Ser R) = 0 := by grind
    have h0 : (1 : Ser R).c 0 = (0 : Ser R).c 0 := by rw [this]
    rw [one_c, zero_c, if_pos rfl] at h0
    exact h0.symm)
  obtain ⟨k, hk⟩ := Deg.some x1 (zw _ _ e3)
  obtain ⟨k', hk'⟩ := Deg.some x2 (zw w' w (by grind))
  have dd := hk.mul F hk'
  rw [e3] at dd
  have hz : k + k' = 0 := Classical.byContradiction fun z => dd.1 (by rw [one_c, if_neg z])
  have k0 : k = 0 := by omega
  subst k0
  have hd := hm.mul F hk
  rw [← a1] at hd
  have em : m' = m := hm'.uniq (by simpa using hd)
  subst em
  have top : (d * w).c (m' + 0) = d.c m' * w.c 0 := (high hm.2 hk.2).1
  rw [← a1, Nat.add_zero, l', l] at top
  have w0 : w.c 0 = 1 := by grind
  have ew : w = 1 := by
    ext i
    rw [one_c]
    by_cases hi : i = 0
    · rw [hi, if_pos rfl, w0]
    · rw [if_neg hi]
      exact hk.2 i (by omega)
  rw [a1, ew]
  grind
theorem Gcd.cop (F : Fld R) {f g d a b : Ser R} (h : Gcd f g d) (hd : d ≠ 0) (ea : f = a * d) (eb : g = b * d) : Cop a b := by
  obtain ⟨_, _, u, v, hu, hv, e⟩ := h
  exact ⟨u, v, hu, hv, cancel F hd (by grind)⟩
/-- what fraction(top, bottom) tells -/
inductive FrS (f g : Ser R) : Option (Ser R × Ser R) → Prop
  | told {a b : Ser R} : g ≠ 0 → Red a b → a * g = b * f → FrS f g (some (a, b))
  | zero : g = 0 → FrS f g none
  | odd {a b d : Ser R} : g ≠ 0 → Fs a → Fs b → f = a * d → g = b * d → Cop a b → b.c 0 = 0 → FrS f g none
theorem FrS.no (F : Fld R) {f g a b a0 b0 d : Ser R} (hg : g ≠ 0) (h : Red a b) (e : a * g = b * f) (e1 : f = a0 * d) (e2 : g = b0 * d) (hc : Cop a0 b0) (h0 : b0.c 0 = 0) : False := by
  have hd : d ≠ 0 := fun z => hg (by grind)
  have e3 : a * b0 = b * a0 := cancel F hd (by grind)
  obtain ⟨t, ht, e4⟩ := hc.dv h.fb ⟨a, h.fa, by grind⟩
  have : b.c 0 = b0.c 0 * t.c 0 := by rw [e4]; rfl
  rw [h.b0, h0] at this
  exact F.ne (by grind)
theorem FrS.uniq (F : Fld R) {f g : Ser R} {o o' : Option (Ser R × Ser R)} (h : FrS f g o) (h' : FrS f g o') : o = o' := by
  cases h with
  | told hg r e =>
    cases h' with
    | told hg' r' e' =>
      obtain ⟨rfl, rfl⟩ := r.uniq F r' (cancel F hg (by grind))
      rfl
    | zero z => exact absurd z hg
    | odd _ fa fb e1 e2 hc h0 => exact (FrS.no F hg r e e1 e2 hc h0).elim
  | zero z =>
    cases h' with
    | told hg' r' e' => exact absurd z hg'
    | zero _ => rfl
    | odd hg' _ _ _ _ _ _ => exact absurd z hg'
  | odd hg fa fb e1 e2 hc h0 =>
    cases h' with
    | told hg' r' e' => exact (FrS.no F hg r' e' e1 e2 hc h0).elim
    | zero z => exact absurd z hg
    | odd _ _ _ _ _ _ _ => rfl
/-- a common factor may be put to both -/
theorem FrS.times (F : Fld R) {f g h : Ser R} {o : Option (Ser R × Ser R)} (hh : h ≠ 0) (x : FrS f g o) : FrS (f * h) (g * h) o := by
  cases x with
  | told hg r e => exact .told (ser_nz F hg hh) r (by grind)
  | zero z => exact .zero (by grind)
  | @odd a b d hg fa fb e1 e2 hc h0 => exact .odd (d := d * h) (ser_nz F hg hh) fa fb (by grind) (by grind) hc h0
theorem FrS.red {a b : Ser R} (F : Fld R) (h : Red a b) : FrS a b (Option.some (a, b)) := .told (nz0 F h.b0) h (by grind)
/-- bottoms that begin with another number than 0 -/
theorem FrS.fit (F : Fld R) {f g : Ser R} {o : Option (Ser R × Ser R)} (hg : g.c 0 ≠ 0) (x : FrS f g o) : ∃ a b, o = Option.some (a, b) ∧ Red a b ∧ a * g = b * f := by
  cases x with
  | told _ r e => exact ⟨_, _, rfl, r, e⟩
  | zero z => exact absurd (by rw [z, zero_c]) hg
  | odd _ fa fb e1 e2 hc h0 =>
    refine absurd ?_ hg
    rw [e2, c0_mul, h0]
    grind
theorem FrS.fit1 (F : Fld R) {f g : Ser R} {o : Option (Ser R × Ser R)} (hg : g.c 0 = 1) (x : FrS f g o) : ∃ a b, o = Option.some (a, b) ∧ Red a b ∧ a * g = b * f :=
  x.fit F (by rw [hg]; exact fun z => F.ne z.symm)
/-- a fraction is one of powers that fit -/
theorem FrS.val (F : Fld R) {f g : Ser R} {o : Option (Ser R × Ser R)} {v w : Nat} (hf : Val f v) (hg : Val g w) (x : FrS f g o) : o.isSome = true ↔ w ≤ v := by
  cases x with
  | @told a b _ r e =>
    refine ⟨fun _ => ?_, fun _ => rfl⟩
    have za : a ≠ 0 := fun z => by
      have z1 : b * f = 0 := by grind
      exact ser_nz F (nz0 F r.b0) hf.nz z1
    obtain ⟨k, hk⟩ := Val.some za
    have hb : Val b 0 := ⟨by rw [r.b0]; exact fun z => F.ne z.symm, fun i hi => absurd hi (Nat.not_lt_zero _)⟩
    have h1 := hk.mul F hg
    have h2 := hb.mul F hf
    rw [e] at h1
    have := h1.uniq h2
    omega
  | zero z => exact absurd z hg.nz
  | @odd a b d _ fa fb e1 e2 hc h0 =>
    refine ⟨fun z => (by cases z), fun h => ?_⟩
    obtain ⟨u, u', hu, hu', e⟩ := hc
    have a0 : a.c 0 ≠ 0 := fun z => F.ne (by
      have h0' : (u * a + u' * b).c 0 = u.c 0 * a.c 0 + u'.c 0 * b.c 0 := rfl
      rw [e, z, h0, one_c, if_pos rfl] at h0'
      grind)
    have zb : b ≠ 0 := fun z => hg.nz (by grind)
    have zd : d ≠ 0 := fun z => hg.nz (by grind)
    obtain ⟨k, hk⟩ := Val.some zb
    obtain ⟨m, hm⟩ := Val.some zd
    have ha : Val a 0 := ⟨a0, fun i hi => absurd hi (Nat.not_lt_zero _)⟩
    have h1 := ha.mul F hm
    have h2 := hk.mul F hm
    rw [← e1] at h1
    rw [← e2] at h2
    have q1 := h1.uniq hf
    have q2 := h2.uniq hg
    have hk0 : k ≠ 0 := fun z => hk.1 (by rw [z]; exact h0)
    omega
/-- out of the greatest divisor -/
theorem FrS.make (F : Fld R) {f g d a b : Ser R} (hg : g ≠ 0) (fa : Fs a) (fb : Fs b) (h : Gcd f g d) (e1 : f = a * d) (e2 : g = b * d) {x y : R} (hx : b.c 0 * x = 1) : FrS f g (Option.some (cst x * a, cst x * b)) := by
  have hd := h.nz (.inr hg)
  obtain ⟨u, v, hu, hv, e⟩ := h.cop F hd e1 e2
  refine .told hg ⟨(Fs.cst x).mul fa, (Fs.cst x).mul fb, by rw [cst_ser_mul]; grind, ?_⟩ (by grind)
  have ec : (cst x * cst (b.c 0) : Ser R) = 1 := by
    ext n
    rw [cst_ser_mul, cst_c, one_c]
    split
    · grind
    · grind
  exact ⟨cst (b.c 0) * u, cst (b.c 0) * v, (Fs.cst _).mul hu, (Fs.cst _).mul hv, by grind⟩
end
end Pol
/-! Pol4: lists of numbers by a prime. -/
namespace Pol
open Lean.Grind
section
variable {p : Nat} [NeZero p]
/-- a whole number by p -/
def fi (p : Nat) [NeZero p] (x : Int) : Fin p := ⟨(x % (p : Int)).toNat, by
  have hp : 0 < p := Nat.pos_of_ne_zero (NeZero.ne p)
  have h1 := Int.emod_nonneg x (show (p : Int) ≠ 0 by omega)
  have h2 := Int.emod_lt_of_pos x (show (0 : Int) < p by omega)
  omega⟩
theorem fi_val (x : Int) : ((fi p x).val : Int) = x % (p : Int) := by
  have hp : 0 < p := Nat.pos_of_ne_zero (NeZero.ne p)
  have h1 := Int.emod_nonneg x (show (p : Int) ≠ 0 by omega)
  show (((x % (p : Int)).toNat : Nat) : Int) = _
  omega
theorem val_lt (a : Fin p) : (0 : Int) ≤ (a.val : Int) ∧ (a.val : Int) < (p : Int) := ⟨by omega, by have := a.isLt; omega⟩
theorem fi_of (a : Fin p) : fi p (a.val : Int) = a := by
  apply Fin.ext
  have h := fi_val (p := p) (a.val : Int)
  rw [Int.emod_eq_of_lt (val_lt a).1 (val_lt a).2] at h
  omega
theorem fi_eq {x y : Int} : fi p x = fi p y ↔ x % (p : Int) = y % (p : Int) := by
  rw [← fi_val (p := p) x, ← fi_val (p := p) y]
  constructor
  · intro h; rw [h]
  · intro h; apply Fin.ext; omega
theorem fi_mod (x : Int) : fi p (x % (p : Int)) = fi p x := fi_eq.mpr (Int.emod_emod_of_dvd x (Int.dvd_refl _))
theorem fi_add (x y : Int) : fi p (x + y) = fi p x + fi p y := by
  apply Fin.ext
  have h := fi_val (p := p) (x + y)
  have hx := fi_val (p := p) x
  have hy := fi_val (p := p) y
  rw [Fin.val_add]
  have : (((fi p x).val + (fi p y).val) % p : Nat) = ((((fi p x).val : Int) + (fi p y).val) % (p : Int)) := by simp
  have e : (x + y) % (p : Int) = (x % (p : Int) + y % (p : Int)) % (p : Int) := Int.add_emod x y p
  rw [← hx, ← hy, ← this, ← h] at e
  omega
theorem fi_mul (x y : Int) : fi p (x * y) = fi p x * fi p y := by
  apply Fin.ext
  have h := fi_val (p := p) (x * y)
  have hx := fi_val (p := p) x
  have hy := fi_val (p := p) y
  rw [Fin.val_mul]
  have : (((fi p x).val * (fi p y).val) % p : Nat) = ((((fi p x).val : Int) * (fi p y).val) % (p : Int)) := by simp
  have e : (x * y) % (p : Int) = (x % (p : Int) * (y % (p : Int))) % (p : Int) := Int.mul_emod x y p
  rw [← hx, ← hy, ← this, ← h] at e
  omega
theorem fi_zero : fi p 0 = 0 := by
  apply Fin.ext
  have h := fi_val (p := p) 0
  rw [Int.zero_emod] at h
  have : ((0 : Fin p).val) = 0 := rfl
  omega
theorem fi_neg (x : Int) : fi p (-x) = - fi p x := by
  have h := fi_add (p := p) x (-x)
  rw [show x + -x = 0 by omega, fi_zero] at h
  grind
theorem fi_sub (x y : Int) : fi p (x - y) = fi p x - fi p y := by
  rw [show x - y = x + -y by omega, fi_add, fi_neg]
  grind
theorem fi_one : fi p 1 = 1 := by
  have e : (fi p 1) * (fi p 1) = fi p 1 := by rw [← fi_mul]; rfl
  by_cases hp : p = 1
  · subst hp
    apply Fin.ext
    have h1 := (fi 1 1).isLt
    have h2 := (1 : Fin 1).isLt
    omega
  · apply Fin.ext
    have h := fi_val (p := p) 1
    have hp0 : p ≠ 0 := NeZero.ne p
    rw [Int.emod_eq_of_lt (by omega) (by omega)] at h
    have : ((1 : Fin p).val) = 1 % p := rfl
    rw [Nat.mod_eq_of_lt (by omega)] at this
    omega
/-! ### lists -/
def ser (l : List (Fin p)) : Ser (Fin p) := ⟨fun n => l.getD n 0⟩
theorem ser_c (l : List (Fin p)) (n : Nat) : (ser l).c n = l.getD n 0 := rfl
theorem ser_le (l : List (Fin p)) : Le (ser l) l.length := fun i hi => by
  rw [ser_c, List.getD_eq_getElem?_getD, List.getElem?_eq_none hi]
  rfl
theorem ser_fs (l : List (Fin p)) : Fs (ser l) := ⟨_, ser_le l⟩
/-- its last number is not 0 -/
def Trim (l : List (Fin p)) : Prop := ∀ h : l ≠ [], l.getLast h ≠ 0
theorem Trim.nil : Trim ([] : List (Fin p)) := fun h => absurd rfl h
theorem Trim.deg {l : List (Fin p)} (h : Trim l) (hn : l ≠ []) : Deg (ser l) (l.length - 1) := by
  have hl : 0 < l.length := List.length_pos_iff.mpr hn
  refine ⟨?_, ?_⟩
  · rw [ser_c, List.getD_eq_getElem?_getD, List.getElem?_eq_getElem (by omega)]
    have := h hn
    rw [List.getLast_eq_getElem] at this
    exact this
  · rw [Nat.sub_add_cancel hl]
    exact ser_le l
theorem Trim.nz {l : List (Fin p)} (h : Trim l) : ser l = 0 ↔ l = [] := by
  refine ⟨fun e => Classical.byContradiction fun hn => (h.deg hn).1 (by rw [e, zero_c]), fun e => ?_⟩
  rw [e]
  ext n
  rw [ser_c, zero_c]
  rfl
theorem Trim.inj {l l' : List (Fin p)} (h : Trim l) (h' : Trim l') (e : ser l = ser l') : l = l' := by
  by_cases hn : l = []
  · rw [hn] at e
    have : ser l' = 0 := by rw [← e]; exact Trim.nil.nz.mpr rfl
    rw [hn, h'.nz.mp this]
  · have hn' : l' ≠ [] := fun z => hn (h.nz.mp (by rw [e]; exact h'.nz.mpr z))
    have d := h.deg hn
    rw [e] at d
    have := d.uniq (h'.deg hn')
    have l1 : 0 < l.length := List.length_pos_iff.mpr hn
    have l2 : 0 < l'.length := List.length_pos_iff.mpr hn'
    refine List.ext_getElem (by omega) fun i h1 h2 => ?_
    have q : (ser l).c i = (ser l').c i := by rw [e]
    rw [ser_c, ser_c, List.getD_eq_getElem?_getD, List.getD_eq_getElem?_getD, List.getElem?_eq_getElem h1, List.getElem?_eq_getElem h2] at q
    exact q
/-- the list without the noughts at its end -/
def trimL (l : List (Fin p)) : List (Fin p) := (l.reverse.dropWhile fun a => decide (a = 0)).reverse
theorem trimL_snoc0 (l : List (Fin p)) : trimL (l ++ [0]) = trimL l := by
  unfold trimL
  rw [List.reverse_append]
  simp
theorem trimL_snoc (l : List (Fin p)) {a : Fin p} (h : a ≠ 0) : trimL (l ++ [a]) = l ++ [a] := by
  unfold trimL
  rw [List.reverse_append]
  simp [h]
theorem trimL_nil : trimL ([] : List (Fin p)) = [] := rfl
theorem snoc_ind {P : List (Fin p) → Prop} (h0 : P []) (h1 : ∀ l a, P l → P (l ++ [a])) (l : List (Fin p)) : P l := by
  have : ∀ r : List (Fin p), P r.reverse := fun r => by
    induction r with
    | nil => exact h0
    | cons a r ih => rw [List.reverse_cons]; exact h1 _ _ ih
  rw [← List.reverse_reverse l]
  exact this _
theorem trimL_trim (l : List (Fin p)) : Trim (trimL l) := by
  refine snoc_ind (P := fun l => Trim (trimL l)) ?_ (fun l a ih => ?_) l
  · exact Trim.nil
  · by_cases h : a = 0
    · rw [h, trimL_snoc0]; exact ih
    · rw [trimL_snoc l h]
      intro hn
      simpa using h
theorem ser_snoc0 (l : List (Fin p)) : ser (l ++ [0]) = ser l := by
  ext n
  rw [ser_c, ser_c, List.getD_eq_getElem?_getD, List.getD_eq_getElem?_getD]
  by_cases h : n < l.length
  · rw [List.getElem?_append_left h]
  · rw [List.getElem?_append_right (by omega), List.getElem?_eq_none (show l.length ≤ n by omega)]
    cases q : n - l.length with
    | zero => rfl
    | succ k => rfl
theorem ser_trimL (l : List (Fin p)) : ser (trimL l) = ser l := by
  refine snoc_ind (P := fun l => ser (trimL l) = ser l) ?_ (fun l a ih => ?_) l
  · rfl
  · by_cases h : a = 0
    · rw [h, trimL_snoc0, ser_snoc0]; exact ih
    · rw [trimL_snoc l h]
/-- the first n numbers -/
def firsts (f : Ser (Fin p)) (n : Nat) : List (Fin p) := (List.range n).map f.c
theorem firsts_len (f : Ser (Fin p)) (n : Nat) : (firsts f n).length = n := by unfold firsts; rw [List.length_map, List.length_range]
theorem firsts_ser {f : Ser (Fin p)} {n : Nat} (h : Le f n) : ser (firsts f n) = f := by
  ext i
  rw [ser_c, List.getD_eq_getElem?_getD]
  unfold firsts
  rw [List.getElem?_map]
  by_cases hi : i < n
  · rw [List.getElem?_range hi]; rfl
  · rw [List.getElem?_eq_none (by rw [List.length_range]; omega), h i (by omega)]; rfl
/-- the trimmed list of a polynomial -/
noncomputable def lst (f : Ser (Fin p)) : List (Fin p) := open Classical in if h : Fs f then trimL (firsts f h.choose) else []
theorem lst_ok {f : Ser (Fin p)} (h : Fs f) : Trim (lst f) ∧ ser (lst f) = f := by
  unfold lst
  rw [dif_pos h]
  exact ⟨trimL_trim _, by rw [ser_trimL, firsts_ser h.choose_spec]⟩
theorem lst_eq {f : Ser (Fin p)} {l : List (Fin p)} (h : Trim l) (e : ser l = f) : lst f = l := by
  have hf : Fs f := by rw [← e]; exact ser_fs l
  obtain ⟨h1, h2⟩ := lst_ok hf
  exact h1.inj h (by rw [h2, e])
theorem lst_ser {l : List (Fin p)} (h : Trim l) : lst (ser l) = l := lst_eq h rfl
theorem lst_trim (l : List (Fin p)) : lst (ser l) = trimL l := lst_eq (trimL_trim l) (ser_trimL l)
theorem lst_nil {f : Ser (Fin p)} (h : Fs f) : lst f = [] ↔ f = 0 := by
  obtain ⟨h1, h2⟩ := lst_ok h
  rw [← h1.nz, h2]
theorem lst_deg {f : Ser (Fin p)} (h : Fs f) (hz : f ≠ 0) : Deg f ((lst f).length - 1) ∧ 0 < (lst f).length := by
  obtain ⟨h1, h2⟩ := lst_ok h
  have hn : lst f ≠ [] := fun z => hz ((lst_nil h).mp z)
  have := h1.deg hn
  rw [h2] at this
  exact ⟨this, List.length_pos_iff.mpr hn⟩
theorem lst_zero : lst (0 : Ser (Fin p)) = [] := (lst_nil Fs.zero).mpr rfl
end
theorem fld2 : Fld (Fin 2) := ⟨by decide, by decide⟩
theorem fld3 : Fld (Fin 3) := ⟨by decide, by decide⟩
theorem fld5 : Fld (Fin 5) := ⟨by decide, by decide⟩
end Pol
set_option maxHeartbeats 1000000
/-! PolT: polynomials by a prime as the evaluator's values. -/
namespace PT
open PySem PySem.Spec PyProof.Rows L2 Tre Pol
open Lean.Grind

/-! ### rows of numbers -/
/-- n numbers -/
def dt (n : Nat) (φ : Nat → Int) : List D := (List.range n).map fun i => .int (φ i)
theorem dt_len (n : Nat) (φ : Nat → Int) : (dt n φ).length = n := by unfold dt; rw [List.length_map, List.length_range]
theorem dt_get {n i : Nat} {φ : Nat → Int} (h : i < n) : (dt n φ)[i]? = some (.int (φ i)) := by
  unfold dt
  rw [List.getElem?_map, List.getElem?_range h] <;> rfl
theorem dt_none {n i : Nat} {φ : Nat → Int} (h : n ≤ i) : (dt n φ)[i]? = none := List.getElem?_eq_none (by rw [dt_len]; exact h)
theorem dt_congr {n : Nat} {φ ψ : Nat → Int} (h : ∀ i, i < n → φ i = ψ i) : dt n φ = dt n ψ := by
  unfold dt
  exact List.map_congr_left fun i hi => by rw [h i (List.mem_range.mp hi)]
theorem dt_ext {l : List D} {n : Nat} {φ : Nat → Int} (hl : l.length = n) (h : ∀ i, i < n → l[i]? = some (.int (φ i))) : l = dt n φ := by
  apply List.ext_getElem?
  intro i
  by_cases hi : i < n
  · rw [h i hi, dt_get hi]
  · rw [List.getElem?_eq_none (by omega), dt_none (by omega)]
theorem dt_set {n i : Nat} {φ : Nat → Int} {v : Int} : (dt n φ).set i (.int v) = dt n (fun j => if j = i then v else φ j) := by
  refine dt_ext (by rw [List.length_set, dt_len]) fun j hj => ?_
  by_cases h : j = i
  · subst h
    rw [List.getElem?_set_self (by rw [dt_len]; exact hj), if_pos rfl]
  · rw [List.getElem?_set_ne (Ne.symm h), dt_get hj, if_neg h]
theorem dt_take {n m : Nat} {φ : Nat → Int} : (dt n φ).take m = dt (min m n) φ := by
  refine dt_ext (by rw [List.length_take, dt_len]) fun j hj => ?_
  rw [List.getElem?_take, if_pos (by omega), dt_get (by omega)]
theorem dt_drop {n m : Nat} {φ : Nat → Int} : (dt n φ).drop m = dt (n - m) (fun i => φ (m + i)) := by
  refine dt_ext (by rw [List.length_drop, dt_len]) fun j hj => ?_
  rw [List.getElem?_drop, dt_get (by omega)]
theorem dt_app {n m : Nat} {φ ψ : Nat → Int} : dt n φ ++ dt m ψ = dt (n + m) (fun i => if i < n then φ i else ψ (i - n)) := by
  refine dt_ext (by rw [List.length_append, dt_len, dt_len]) fun j hj => ?_
  by_cases h : j < n
  · rw [List.getElem?_append_left (by rw [dt_len]; exact h), dt_get h, if_pos h]
  · rw [List.getElem?_append_right (by rw [dt_len]; omega), dt_len, dt_get (by omega), if_neg h]
theorem dt_snoc {n : Nat} {φ : Nat → Int} : dt n φ ++ [.int (φ n)] = dt (n + 1) φ := by
  unfold dt
  rw [List.range_succ, List.map_append]
  rfl
theorem dt_last {n : Nat} {φ : Nat → Int} : (dt (n + 1) φ).dropLast = dt n φ := by
  rw [← dt_snoc, List.dropLast_concat]
theorem dt_rep {k : Nat} {c : Int} : (List.replicate k [PyData.int c]).flatten = dt k fun _ => c := by
  induction k with
  | zero => rfl
  | succ k ih =>
    rw [List.replicate_succ', List.flatten_append, ih]
    exact dt_snoc (φ := fun _ => c)
theorem dt_one {c : Int} : [PyData.int c] = dt 1 fun _ => c := rfl
theorem dt_nil {φ : Nat → Int} : dt 0 φ = [] := rfl
theorem dt_ne {n : Nat} {φ : Nat → Int} : dt n φ = [] ↔ n = 0 := by
  rw [← List.length_eq_zero_iff, dt_len]
theorem dt_enu {n i : Nat} {φ : Nat → Int} (h : i < n) : (enuD 0 (dt n φ))[i]? = some (.tuple [.int (i : Nat), .int (φ i)]) := by
  have := enuD_get (dt n φ) 0 i (.int (φ i)) (dt_get h)
  rw [Nat.zero_add] at this
  exact this
theorem dt_sub {n i : Nat} {φ : Nat → Int} (h : i < n) : atI (dt n φ) (i : Int) = some (.int (φ i)) := by rw [Tre.atI_nat, dt_get h]
theorem dt_subL {n : Nat} {φ : Nat → Int} (h : 0 < n) : atI (dt n φ) (-1) = some (.int (φ (n - 1))) := by
  unfold atI ixN
  rw [if_neg (by omega), dt_len, if_pos (by omega)]
  show (dt n φ)[(-1 + (n : Int)).toNat]? = _
  rw [show (-1 + (n : Int)).toNat = n - 1 by omega, dt_get (by omega)]
theorem dt_ints : ∀ {n : Nat} {φ : Nat → Int}, intsOf (dt n φ) = some ((List.range n).map φ) := by
  intro n φ
  unfold dt
  generalize List.range n = l
  induction l with
  | nil => rfl
  | cons a l ih => rw [List.map_cons, intsOf, ih]; rfl
theorem rng_dt (lo : Int) (n : Nat) : rngD lo n = dt n fun i => lo + (i : Nat) := rfl
theorem rngC_dt (lo c : Int) (n : Nat) : rngCD lo c n = dt n fun i => lo + (i : Nat) * c := rfl

theorem cut_hi (xs : List D) (m : Nat) : Tre.cutD xs none (some (m : Int)) = xs.take m := by
  unfold Tre.cutD
  rw [HT.sIx_nat]
  show (xs.drop 0).take (min m xs.length - 0) = _
  rw [List.drop_zero, Nat.sub_zero]
  by_cases h : m ≤ xs.length
  · rw [Nat.min_eq_left h]
  · rw [Nat.min_eq_right (by omega), List.take_of_length_le (Nat.le_refl _), List.take_of_length_le (by omega)]
theorem cut_lo (xs : List D) (m : Nat) : Tre.cutD xs (some (m : Int)) none = xs.drop m := by
  unfold Tre.cutD
  rw [HT.sIx_nat]
  show (xs.drop (min m xs.length)).take (xs.length - min m xs.length) = _
  rw [List.take_of_length_le (by rw [List.length_drop]; exact Nat.le_refl _)]
  by_cases h : m ≤ xs.length
  · rw [Nat.min_eq_left h]
  · rw [Nat.min_eq_right (by omega), List.drop_eq_nil_of_le (Nat.le_refl _), List.drop_eq_nil_of_le (by omega)]
theorem eqF_i (a b : Int) : eqF (.int a) (.int b) = some (decide (a = b)) := Tre.eqF_int a b
/-! ### equality of rows of numbers -/
theorem eqv_dt : ∀ {n m : Nat} {φ ψ : Nat → Int}, PyData.eqvAll (dt n φ) (dt m ψ) = true ↔ n = m ∧ ∀ i, i < n → φ i = ψ i := by
  have key : ∀ (l k : List Int), PyData.eqvAll (l.map PyData.int) (k.map PyData.int) = true ↔ l = k := by
    intro l
    induction l with
    | nil => intro k; cases k <;> simp [PyData.eqvAll]
    | cons a l ih =>
      intro k
      cases k with
      | nil => simp [PyData.eqvAll]
      | cons b k => simp [PyData.eqvAll, PyData.eqv, ih]
  intro n m φ ψ
  have e : ∀ n (φ : Nat → Int), dt n φ = ((List.range n).map φ).map PyData.int := fun n φ => by unfold dt; rw [List.map_map]; rfl
  rw [e, e, key]
  constructor
  · intro h
    have hl := congrArg List.length h
    rw [List.length_map, List.length_map, List.length_range, List.length_range] at hl
    subst hl
    refine ⟨rfl, fun i hi => ?_⟩
    have := congrArg (fun l => l[i]?) h
    simp only [List.getElem?_map, List.getElem?_range hi, Option.map_some] at this
    exact Option.some.inj this
  · rintro ⟨rfl, h⟩
    exact List.map_congr_left fun i hi => h i (List.mem_range.mp hi)
theorem dt_depth (n : Nat) (φ : Nat → Int) : PyData.depthAll (dt n φ) = 0 ∨ PyData.depthAll (dt n φ) ≤ 1 := by
  refine .inr (depthAll_le fun x hx => ?_)
  obtain ⟨i, _, rfl⟩ := List.mem_map.mp hx
  simp [PyData.depth]
/-! ### the noughts at the end -/
def tm : Nat → (Nat → Int) → Nat
  | 0, _ => 0
  | n + 1, φ => if φ n = 0 then tm n φ else n + 1
theorem tm_le : ∀ (n : Nat) (φ : Nat → Int), tm n φ ≤ n
  | 0, _ => Nat.le_refl _
  | n + 1, φ => by
    unfold tm
    have := tm_le n φ
    split <;> omega
theorem tm_z : ∀ (n : Nat) (φ : Nat → Int) (i : Nat), tm n φ ≤ i → i < n → φ i = 0
  | n + 1, φ, i, h, hi => by
    unfold tm at h
    split at h
    · rename_i hz
      by_cases e : i = n
      · rw [e]; exact hz
      · exact tm_z n φ i h (by omega)
    · omega
theorem tm_nz : ∀ (n : Nat) (φ : Nat → Int), tm n φ ≠ 0 → φ (tm n φ - 1) ≠ 0
  | 0, _, h => absurd rfl h
  | n + 1, φ, h => by
    unfold tm at h ⊢
    split
    · rename_i hz
      rw [if_pos hz] at h
      exact tm_nz n φ h
    · assumption
theorem tm_congr : ∀ {n : Nat} {φ ψ : Nat → Int}, (∀ i, i < n → φ i = ψ i) → tm n φ = tm n ψ
  | 0, _, _, _ => rfl
  | n + 1, φ, ψ, h => by
    unfold tm
    rw [h n (by omega), tm_congr fun i hi => h i (by omega)]

/-! ### polynomials -/
section
variable {p : Nat} [NeZero p]
abbrev S (p : Nat) := Ser (Fin p)
/-- the number at a power -/
def cf (f : S p) (i : Nat) : Int := ((f.c i).val : Int)
noncomputable def ln (f : S p) : Nat := (lst f).length
theorem ln_le {f : S p} (h : Fs f) : Le f (ln f) := by
  have := ser_le (lst f)
  rw [(lst_ok h).2] at this
  exact this
theorem ln_last {f : S p} (h : Fs f) (hz : f ≠ 0) : f.c (ln f - 1) ≠ 0 ∧ 0 < ln f := ⟨(lst_deg h hz).1.1, (lst_deg h hz).2⟩
theorem ln_zero {f : S p} (h : Fs f) : ln f = 0 ↔ f = 0 := by
  rw [← lst_nil h]
  exact List.length_eq_zero_iff
theorem ln_min {f : S p} {n : Nat} (h : Le f n) : ln f ≤ n := by
  by_cases hz : f = 0
  · have : ln f = 0 := (ln_zero ⟨n, h⟩).mpr hz
    omega
  · obtain ⟨h1, h2⟩ := ln_last ⟨n, h⟩ hz
    refine Nat.le_of_not_lt fun z => h1 (h _ (by omega))
theorem cf_zero {f : S p} {i : Nat} : cf f i = 0 ↔ f.c i = 0 := by
  unfold cf
  constructor
  · intro h; apply Fin.ext; show _ = (0 : Nat); omega
  · intro h; rw [h]; rfl
theorem cf_fi {f : S p} {i : Nat} {x : Int} (h : fi p x = f.c i) : x % (p : Int) = cf f i := by
  unfold cf; rw [← h, fi_val]
theorem fi_cf (f : S p) (i : Nat) : fi p (cf f i) = f.c i := fi_of _
theorem cf_b (f : S p) (i : Nat) : 0 ≤ cf f i ∧ cf f i < (p : Int) := val_lt _
/-- a polynomial's value -/
noncomputable def po (f : S p) : D := .tuple (dt (ln f) (cf f))
theorem cf_out {f : S p} (h : Fs f) {i : Nat} (hi : ln f ≤ i) : cf f i = 0 := cf_zero.mpr (ln_le h i hi)
/-- a trimmed row of numbers is a polynomial -/
theorem tm_po {h : S p} {n : Nat} {φ : Nat → Int} (hn : Le h n) (e : ∀ i, i < n → φ i = cf h i) : PyData.tuple (dt (tm n φ) φ) = po h := by
  have el : tm n φ = ln h := by
    have h1 := tm_le n φ
    by_cases hz : h = 0
    · rw [(ln_zero ⟨n, hn⟩).mpr hz]
      refine Classical.byContradiction fun z => tm_nz n φ z ?_
      rw [e _ (by omega), hz]
      exact cf_zero.mpr (zero_c _)
    · obtain ⟨l1, l2⟩ := ln_last ⟨n, hn⟩ hz
      have l3 := ln_min hn
      rcases Nat.lt_trichotomy (tm n φ) (ln h) with q | q | q
      · refine absurd ?_ l1
        have := tm_z n φ (ln h - 1) (by omega) (by omega)
        rw [e _ (by omega)] at this
        exact cf_zero.mp this
      · exact q
      · refine absurd ?_ (tm_nz n φ (by omega))
        rw [e _ (by omega)]
        exact cf_out ⟨n, hn⟩ (by omega)
  unfold po
  rw [el]
  exact congrArg PyData.tuple (dt_congr fun i hi => e i (by have := ln_min hn; omega))
theorem po_zero : po (0 : S p) = .tuple [] := by
  unfold po
  rw [(ln_zero Fs.zero).mpr rfl]
  rfl
theorem ln_one (F : Fld (Fin p)) : ln (1 : S p) = 1 := by
  have h1 := ln_min (f := (1 : S p)) (n := 1) fun i hi => by rw [one_c, if_neg (by omega)]
  have hz : (1 : S p) ≠ 0 := fun z => F.ne (by
    have := congrArg (fun f => f.c 0) z
    simp only [one_c, zero_c, if_pos] at this
    exact this.symm)
  have := (ln_last Fs.one hz).2
  omega
theorem po_one (F : Fld (Fin p)) : po (1 : S p) = .tuple [.int 1] := by
  have h1 : cf (1 : S p) 0 = 1 := by
    have := cf_fi (f := (1 : S p)) (i := 0) (x := 1) (by rw [fi_one, one_c, if_pos rfl])
    rw [← this]
    have hp : p ≠ 1 := fun z => by
      subst z
      exact F.ne (Fin.ext (by omega))
    have hp0 : p ≠ 0 := NeZero.ne p
    exact Int.emod_eq_of_lt (by omega) (by omega)
  unfold po
  rw [ln_one F]
  show PyData.tuple [.int (cf (1 : S p) 0)] = _
  rw [h1]
theorem po_inj {f g : S p} (hf : Fs f) (hg : Fs g) (e : ln f = ln g ∧ ∀ i, i < ln f → cf f i = cf g i) : f = g := by
  ext i
  by_cases hi : i < ln f
  · have := e.2 i hi
    unfold cf at this
    omega
  · rw [ln_le hf i (by omega), ln_le hg i (by omega)]
theorem eqF_po {f g : S p} (hf : Fs f) (hg : Fs g) : ∃ b, eqF (po f) (po g) = some b ∧ (b = true ↔ f = g) := by
  refine ⟨PyData.eqv (po f) (po g), ?_, ?_⟩
  · unfold eqF
    rw [if_pos]
    refine Nat.le_trans (Nat.min_le_left _ _) ?_
    unfold po
    have := dt_depth (ln f) (cf f)
    simp only [PyData.depth]
    omega
  · unfold po
    show PyData.eqvAll _ _ = true ↔ _
    rw [eqv_dt]
    exact ⟨po_inj hf hg, fun e => by rw [e]; exact ⟨rfl, fun _ _ => rfl⟩⟩
theorem eqF_po0 {f : S p} (hf : Fs f) : ∃ b, eqF (po f) (.tuple []) = some b ∧ (b = true ↔ f = 0) := by
  have := eqF_po hf (Fs.zero (R := Fin p))
  rw [po_zero] at this
  exact this
/-- a row of numbers times another one -/
def part {R : Type _} [CommRing R] (f g : Nat → R) : Nat → Nat → R
  | 0, _ => 0
  | I + 1, n => part f g I n + (if I ≤ n then f I * g (n - I) else 0)
theorem part_shift {R : Type _} [CommRing R] (f g : Nat → R) (n : Nat) : ∀ I, I ≤ n + 1 → part f g I (n + 1) = part f (fun i => g (i + 1)) I n
  | 0, _ => rfl
  | I + 1, h => by
    rw [part, part, part_shift f g n I (by omega), if_pos (by omega), if_pos (by omega)]
    rw [show n + 1 - I = (n - I) + 1 by omega]
theorem part_mulF {R : Type _} [CommRing R] (f : Nat → R) : ∀ (n : Nat) (g : Nat → R), part f g (n + 1) n = mulF f g n
  | 0, g => by
    simp only [part, mulF]
    rw [if_pos (Nat.le_refl _)]
    grind
  | n + 1, g => by
    rw [part, part_shift f g n (n + 1) (Nat.le_refl _), part_mulF f n, mulF_last, if_pos (Nat.le_refl _), Nat.sub_self]
    grind
theorem part_more {R : Type _} [CommRing R] (f g : Nat → R) {n I : Nat} (h : n < I) : part f g I n = part f g (n + 1) n := by
  induction I with
  | zero => omega
  | succ I ih =>
    by_cases e : n = I
    · rw [e]
    · rw [part, ih (by omega), if_neg (by omega)]
      grind
theorem part_all {R : Type _} [CommRing R] (f g : Nat → R) {n I : Nat} (hf : ∀ i, I ≤ i → f i = 0) : part f g I n = mulF f g n := by
  rw [← part_mulF]
  by_cases h : n < I
  · exact part_more f g h
  · have key : ∀ d, part f g (I + d) n = part f g I n := fun d => by
      induction d with
      | zero => rfl
      | succ d ih =>
        show part f g (I + d) n + (if I + d ≤ n then f (I + d) * g (n - (I + d)) else 0) = _
        rw [ih, hf (I + d) (by omega)]
        split <;> grind
    rw [show n + 1 = I + (n + 1 - I) by omega, key]
end
/-- a loop that is told step by step -/
theorem forL_det {f : D → Tre.Env → Src → R Fl} {s : Src} (E : Nat → Tre.Env) : ∀ {xs : List D} (i : Nat), (∀ j x, xs[j]? = some x → f x (E (i + j)) s = .ok (.next (E (i + j + 1))) s) → forL f xs (E i) s = .ok (.next (E (i + xs.length))) s
  | [], _, _ => rfl
  | x :: xs, i, h => by
    unfold forL
    have h0 : f x (E i) s = .ok (.next (E (i + 1))) s := h 0 x rfl
    rw [h0]
    have := forL_det E (xs := xs) (i + 1) fun j y hy => by
      have := h (j + 1) y (by simpa using hy)
      rw [show i + (j + 1) = i + 1 + j by omega] at this
      exact this
    rw [show i + (x :: xs).length = i + 1 + xs.length by rw [List.length_cons]; omega]
    exact this
theorem forL_ind {f : D → Tre.Env → Src → R Fl} {s : Src} {I : Nat → Tre.Env → Prop} : ∀ {xs : List D} (i : Nat) (env : Tre.Env), (∀ j x env, xs[j]? = some x → I (i + j) env → ∃ env', f x env s = .ok (.next env') s ∧ I (i + j + 1) env') → I i env →
    ∃ env', forL f xs env s = .ok (.next env') s ∧ I (i + xs.length) env'
  | [], _, env, _, h => ⟨env, rfl, h⟩
  | x :: xs, i, env, h, h0 => by
    obtain ⟨env1, e1, h1⟩ := h 0 x env rfl h0
    obtain ⟨env2, e2, h2⟩ := forL_ind (xs := xs) (i + 1) env1 (fun j y env hy hi => by
      have := h (j + 1) y env (by simpa using hy)
      rw [show i + (j + 1) = i + 1 + j by omega] at this
      exact this hi) h1
    refine ⟨env2, ?_, by rw [show i + (x :: xs).length = i + 1 + xs.length by rw [List.length_cons]; omega]; exact h2⟩
    unfold forL
    rw [e1]
    exact e2
section
variable {Φ : Nat → List Tre.Arg → Src → R (Bool × D)} {Gg : Nat → Option D}
/-- a loop, by what holds before each step -/
theorem for_ind {tg it b : T} {env : Tre.Env} {s s1 : Src} {xs : List D} (I : Nat → Tre.Env → Prop) (hi : evI Φ Gg it env s = .ok (false, xs) s1) (h0 : I 0 env)
    (h : ∀ j x env, xs[j]? = some x → I j env → ∃ env1 env2, bindT tg (.frz, x) env = some env1 ∧ evS Φ Gg b env1 s1 = .ok (.next env2) s1 ∧ I (j + 1) env2) :
    ∃ env', evS Φ Gg (.for tg it b) env s = .ok (.next env') s1 ∧ I xs.length env' := by
  obtain ⟨env', e, q⟩ := forL_ind (f := fun x env s => (R.of (bindT tg (.frz, x) env) s).bind fun env' s => evS Φ Gg b env' s) (s := s1) (I := I) (xs := xs) 0 env (fun j x env hj hI => by
    rw [Nat.zero_add] at hI ⊢
    obtain ⟨env1, env2, e1, e2, e3⟩ := h j x env hj hI
    exact ⟨env2, by rw [e1, R.of_some, R.bind_ok, e2], e3⟩) h0
  rw [Nat.zero_add] at q
  refine ⟨env', ?_, q⟩
  simp only [evS, hi, R.bind_ok]
  exact e
theorem compL_dt {f : D → Src → R (Option D)} {s : Src} {ψ : Nat → Int} : ∀ (xs : List D) (d : Nat), (∀ i x, xs[i]? = some x → f x s = .ok (some (.int (ψ (d + i)))) s) → compL f xs s = .ok (dt xs.length fun i => ψ (d + i)) s
  | [], _, _ => rfl
  | x :: xs, d, h => by
    have h0 := h 0 x rfl
    have := compL_dt (ψ := ψ) xs (d + 1) fun i y hy => by
      have := h (i + 1) y (by simpa using hy)
      rw [show d + (i + 1) = d + 1 + i by omega] at this
      exact this
    unfold compL
    rw [h0, R.bind_ok, this, R.bind_ok]
    refine congrArg (R.ok · s) (dt_ext (by rw [List.length_cons, dt_len, List.length_cons]) fun i hi => ?_)
    cases i with
    | zero => rfl
    | succ i => rw [List.getElem?_cons_succ, dt_get (by simpa using hi), show d + (i + 1) = d + 1 + i by omega]
/-- a comprehension over numbers -/
theorem lc_dt {tg it elt : T} {ws : List Nat} {env : Tre.Env} {s s1 : Src} {pk : Bool} {n : Nat} {xs : List D} {ψ : Nat → Int} (hi : evI Φ Gg it env s = .ok (pk, xs) s1) (hx : xs.length = n) (hl : n ≤ sizeLine)
    (h : ∀ i x, xs[i]? = some x → ∃ env', bindT tg (.frz, x) (klE env ws) = some env' ∧ evE Φ Gg elt env' s1 = .ok (.frz, .int (ψ i)) s1) :
    evE Φ Gg (.lc tg it (.c (.bool true)) elt ws) env s = .ok (.own, .list (dt n ψ)) s1 := by
  unfold evE
  rw [hi, R.bind_ok, if_pos (by show xs.length ≤ _; rw [hx]; exact hl), compL_dt (ψ := ψ) xs 0]
  · rw [hx]
    exact congrArg (fun l => R.ok (Kd.own, PyData.list l) s1) (dt_congr fun i _ => by rw [Nat.zero_add])
  · intro i x hxi
    obtain ⟨env', e1, e2⟩ := h i x hxi
    rw [e1, R.of_some, R.bind_ok, Nat.zero_add]
    simp [evE, R.calm, truth, e2]
end
/-! ### one step at a time -/
section
variable {Φ : Nat → List Tre.Arg → Src → R (Bool × D)} {Gg : Nat → Option D} {a b c : T} {env : Tre.Env} {s s1 s2 s3 : Src}
theorem oa (x y : Int) : opF .Add (.int x) (.int y) = some (.frz, .int (x + y)) := rfl
theorem os (x y : Int) : opF .Sub (.int x) (.int y) = some (.frz, .int (x - y)) := rfl
theorem om {x y : Int} (h : (-1000000 < x ∧ x < 1000000) ∨ (-1000000 < y ∧ y < 1000000)) : opF .Mult (.int x) (.int y) = some (.frz, .int (x * y)) := by
  refine opF_mul x y ?_
  unfold cmulB
  simp only [Bool.or_eq_true, Bool.and_eq_true, decide_eq_true_eq]
  rcases h with h | h
  · left; omega
  · right; omega
theorem omod {x y : Int} (h : 0 < y) : opF .Mod (.int x) (.int y) = some (.frz, .int (x % y)) := by
  show (if 0 < y then _ else _) = _
  rw [if_pos h]
theorem okR_i {j : Int} (h : -1000000 < j ∧ j < 1000000) : okR j = true := by
  unfold okR
  simp only [Bool.and_eq_true, decide_eq_true_eq]
  omega
theorem rng1_e {k : Kd} {j : Int} (h : evE Φ Gg a env s = .ok (k, .int j) s1) (hj : -1000000 < j ∧ j < 1000000) : evI Φ Gg (.rng (.cons a .nil)) env s = .ok (false, rngD 0 j.toNat) s1 := by
  simp only [evI, evA, h, R.bind_ok, List.map_cons, List.map_nil, rngF, okR_i hj, if_true, Option.map_some, R.of_some]
theorem rng2_e {k k' : Kd} {i j : Int} (h : evE Φ Gg a env s = .ok (k, .int i) s1) (h' : evE Φ Gg b env s1 = .ok (k', .int j) s2) (hi : -1000000 < i ∧ i < 1000000) (hj : -1000000 < j ∧ j < 1000000) : evI Φ Gg (.rng (.cons a (.cons b .nil))) env s = .ok (false, rngD i (j - i).toNat) s2 := by
  simp only [evI, evA, h, h', R.bind_ok, List.map_cons, List.map_nil, rngF, okR_i hi, okR_i hj, Bool.and_self, if_true, Option.map_some, R.of_some]
theorem rvr_e {k : Kd} {j : Int} (h : evE Φ Gg a env s = .ok (k, .int j) s1) (hj : -1000000 < j ∧ j < 1000000) : evI Φ Gg (.rvr (.cons a .nil)) env s = .ok (false, rngCD (((j.toNat : Nat) : Int) - 1) (-1) j.toNat) s1 := by
  simp only [evI, evA, h, R.bind_ok, List.map_cons, List.map_nil, rvrF, okR_i hj, if_true, Option.map_some, R.of_some]
theorem enu_e {k : Kd} {x : D} {xs : List D} (h : evE Φ Gg a env s = .ok (k, x) s1) (hx : x = .tuple xs ∨ x = .list xs) (hk : k ≠ .peek) : evI Φ Gg (.enu a) env s = .ok (false, enuD 0 xs) s1 := by
  rcases hx with rfl | rfl <;> simp only [evI, h, R.bind_ok, enF, Option.map_some, R.of_some, decide_eq_false hk]
theorem it_e {k : Kd} {x : D} {xs : List D} (h : evE Φ Gg a env s = .ok (k, x) s1) (hx : x = .tuple xs ∨ x = .list xs) : evI Φ Gg (.it a) env s = .ok (decide (k = .peek), xs) s1 := by
  rcases hx with rfl | rfl <;> simp only [evI, h, R.bind_ok, itF, Option.map_some, R.of_some]
theorem itF_e {k : Kd} {x : D} {xs : List D} (h : evE Φ Gg a env s = .ok (k, x) s1) (hx : x = .tuple xs ∨ x = .list xs) (hk : k ≠ .peek) : evI Φ Gg (.it a) env s = .ok (false, xs) s1 := by
  rw [it_e h hx, decide_eq_false hk]
theorem zipT_e {k k' : Kd} {xs ys : List D} (h : evE Φ Gg a env s = .ok (k, .tuple xs) s1) (h' : evE Φ Gg b env s1 = .ok (k', .tuple ys) s2) (hk : k ≠ .peek) (hk' : k' ≠ .peek) : evI Φ Gg (.zip false a b) env s = .ok (false, zipD xs ys) s2 := by
  simp only [evI, h, h', R.bind_ok, decide_eq_false hk, decide_eq_false hk', Bool.or_self]
theorem setx_e {i j : Nat} {n : Nat} {φ : Nat → Int} {k k' : Kd} {v : Int} (h0 : env[i]? = some (.d true (.list (dt n φ)))) (h : evE Φ Gg a env s = .ok (k, .int v) s1) (hk : k ≠ .peek) (h' : evE Φ Gg b env s1 = .ok (k', .int (j : Nat)) s2) (hj : j < n) :
    evS Φ Gg (.setx i b a) env s = .ok (.next (env.set i (.d true (.list (dt n fun m => if m = j then v else φ m))))) s2 := by
  have e3 : ixN (dt n φ).length (j : Int) = some j := by
    unfold ixN
    rw [dt_len, if_pos (by omega), if_pos (by omega)]
    simp
  simp only [evS, ownL, h0, h, h', R.bind_ok, if_neg hk, e3, dt_set]
theorem augx_e {o : Operator} {i j : Nat} {n : Nat} {φ : Nat → Int} {k k' : Kd} {v w : Int} (h0 : env[i]? = some (.d true (.list (dt n φ)))) (h' : evE Φ Gg b env s = .ok (k', .int (j : Nat)) s1) (hj : j < n) (h : evE Φ Gg a env s1 = .ok (k, .int v) s2) (hw : Tre.opI o (.int (φ j)) (.int v) = some (.int w)) :
    evS Φ Gg (.augx i b o a) env s = .ok (.next (env.set i (.d true (.list (dt n fun m => if m = j then w else φ m))))) s2 := by
  have hn : ¬ ((j : Int) < 0) := by omega
  have e3 : (dt n φ)[j]? = some (.int (φ j)) := dt_get hj
  simp only [evS, ownL, h0, h, h', R.bind_ok, if_neg hn, e3, hw, dt_set, Int.toNat_natCast]
theorem aug_e {o : Operator} {i : Nat} {x y z : D} {k : Kd} (h0 : env[i]? = some (.d false x)) (h : evE Φ Gg a env s = .ok (k, y) s1) (hw : Tre.opI o x y = some z) : evS Φ Gg (.aug i o a) env s = .ok (.next (env.set i (.d false z))) s1 := by
  simp only [evS, h0, h, R.bind_ok, hw]
theorem bi2 {f : BI} {x y z : Kd × D} (h : evE Φ Gg a env s = .ok x s1) (h' : evE Φ Gg b env s1 = .ok y s2) (h2 : biF f [x.2, y.2] = some z) : evE Φ Gg (.bi f (.cons a (.cons b .nil))) env s = .ok z s2 := by
  simp only [evE, evA, h, h', R.bind_ok, List.map_cons, List.map_nil, h2, R.of_some]
theorem call2 {f : Nat} {x y : Kd × D} {o : Bool} {d : D} (h : evE Φ Gg a env s = .ok x s1) (hk : x.1 ≠ .peek) (h' : evE Φ Gg b env s1 = .ok y s2) (hk' : y.1 ≠ .peek) (h2 : Φ f [.d x.2, .d y.2] s2 = .ok (o, d) s3) : evE Φ Gg (.call f (.cons a (.cons b .nil))) env s = .ok (if o then .own else .frz, d) s3 := by
  simp only [evE, evG, h, h', R.bind_ok, if_neg hk, if_neg hk', h2]
theorem call3 {f : Nat} {x y z : Kd × D} {o : Bool} {d : D} {s4 : Src} (h : evE Φ Gg a env s = .ok x s1) (hk : x.1 ≠ .peek) (h' : evE Φ Gg b env s1 = .ok y s2) (hk' : y.1 ≠ .peek) (h'' : evE Φ Gg c env s2 = .ok z s3) (hk'' : z.1 ≠ .peek) (h2 : Φ f [.d x.2, .d y.2, .d z.2] s3 = .ok (o, d) s4) :
    evE Φ Gg (.call f (.cons a (.cons b (.cons c .nil)))) env s = .ok (if o then .own else .frz, d) s4 := by
  simp only [evE, evG, h, h', h'', R.bind_ok, if_neg hk, if_neg hk', if_neg hk'', h2]
theorem tup_e {es : T} {xs : List (Kd × D)} {ds : List D} (h : evA Φ Gg es env s = .ok xs s1) (h2 : noPeek xs = some ds) (hl : ds.length ≤ sizeLine) : evE Φ Gg (.tup es) env s = .ok (.frz, .tuple ds) s1 := by
  simp only [evE, h, R.bind_ok, h2, Option.bind_some, if_pos hl, R.of_some]
theorem tup0_e : evE Φ Gg (.tup .nil) env s = .ok (.frz, .tuple []) s := tup_e ea_nil rfl (Nat.zero_le _)
theorem tup2_e {x y : Kd × D} (h : evE Φ Gg a env s = .ok x s1) (hk : x.1 ≠ .peek) (h' : evE Φ Gg b env s1 = .ok y s2) (hk' : y.1 ≠ .peek) : evE Φ Gg (.tup (.cons a (.cons b .nil))) env s = .ok (.frz, .tuple [x.2, y.2]) s2 := by
  refine tup_e (ea_cons h (ea_cons h' ea_nil)) ?_ (by rw [sizeL]; show 2 ≤ _; omega)
  obtain ⟨kx, dx⟩ := x
  obtain ⟨ky, dy⟩ := y
  simp only [noPeek, if_neg hk, if_neg hk', Option.map_some]
theorem neg_e {k : Kd} {i : Int} (h : evE Φ Gg a env s = .ok (k, .int i) s1) : evE Φ Gg (.neg a) env s = .ok (.frz, .int (-i)) s1 := by
  simp only [evE, h, R.bind_ok]
theorem slh_e {k : Kd} {x : D} {xs : List D} {m : Nat} (h : evE Φ Gg a env s = .ok (k, x) s1) (h' : evE Φ Gg b env s1 = .ok (.frz, .int (m : Nat)) s2) (hx : x = .tuple xs) : evE Φ Gg (.sl a .nil (.cons b .nil)) env s = .ok (.frz, .tuple (xs.take m)) s2 := by
  subst hx
  simp only [evE, evO, h, h', R.bind_ok, intPart, R.of_some, slF, cut_hi]
theorem sll_e {k : Kd} {x : D} {xs : List D} {m : Nat} (h : evE Φ Gg a env s = .ok (k, x) s1) (h' : evE Φ Gg b env s1 = .ok (.frz, .int (m : Nat)) s2) (hx : x = .tuple xs) : evE Φ Gg (.sl a (.cons b .nil) .nil) env s = .ok (.frz, .tuple (xs.drop m)) s2 := by
  subst hx
  simp only [evE, evO, h, h', R.bind_ok, intPart, R.of_some, slF, cut_lo]
theorem ifs_e {r r' : T} {x : Kd × D} {b : Bool} (h : evE Φ Gg c env s = .ok x s1) (ht : truth x.2 = b) : evS Φ Gg (.ifs c r r') env s = if b then evS Φ Gg r env s1 else evS Φ Gg r' env s1 := by
  simp only [evS, h, R.bind_ok, ht]
theorem ev_nil : evS Φ Gg .nil env s = .ok (.next env) s := by simp only [evS]
theorem one_e {r : T} {env' : Tre.Env} (h : evS Φ Gg r env s = .ok (.next env') s1) : evS Φ Gg (.seq r .nil) env s = .ok (.next env') s1 := by rw [seq_next h, ev_nil]
end
theorem frzN : Kd.frz ≠ Kd.peek := by decide
theorem ownN : Kd.own ≠ Kd.peek := by decide
theorem clt {a b : Int} {z : Bool} (h : decide (a < b) = z) : cmpF .Lt (.int a) (.int b) = some z := congrArg some h
theorem cle {a b : Int} {z : Bool} (h : decide (a ≤ b) = z) : cmpF .LtE (.int a) (.int b) = some z := congrArg some h
theorem cgt {a b : Int} {z : Bool} (h : decide (b < a) = z) : cmpF .Gt (.int a) (.int b) = some z := congrArg some h
theorem cge {a b : Int} {z : Bool} (h : decide (b ≤ a) = z) : cmpF .GtE (.int a) (.int b) = some z := congrArg some h
theorem ceqi {a b : Int} {z : Bool} (h : decide (a = b) = z) : cmpF .Eq (.int a) (.int b) = some z := by rw [← h]; exact eqF_i a b
theorem cnei {a b : Int} {z : Bool} (h : (!decide (a = b)) = z) : cmpF .NotEq (.int a) (.int b) = some z := by
  rw [← h]
  show (eqF (.int a) (.int b)).map (!·) = _
  rw [eqF_i] <;> rfl
theorem ceq {x y : D} {z : Bool} (h : eqF x y = some z) : cmpF .Eq x y = some z := h
theorem cne {x y : D} {z : Bool} (h : eqF x y = some z) : cmpF .NotEq x y = some (!z) := by
  show (eqF x y).map (!·) = _
  rw [h] <;> rfl
theorem dtr {q : Prop} [Decidable q] (h : q) : decide q = true := decide_eq_true_iff.mpr h
theorem dfa {q : Prop} [Decidable q] (h : ¬ q) : decide q = false := decide_eq_false_iff_not.mpr h
theorem opF_repL (xs : List D) (k : Int) (h : -(2 ^ 63) ≤ k ∧ k < 2 ^ 63 ∧ xs.length * k.toNat ≤ sizeLine) : opF .Mult (.list xs) (.int k) = some (.own, .list (List.replicate k.toNat xs).flatten) := if_pos h
theorem rep0L {n : Nat} {k : Int} (hk : k = (n : Nat)) (h : n ≤ 100000) : opF .Mult (.list [.int 0]) (.int k) = some (.own, .list (dt n fun _ => 0)) := by
  subst hk
  rw [opF_repL _ _ ⟨by omega, by omega, by rw [sizeL, Int.toNat_natCast]; show 1 * n ≤ _; omega⟩, Int.toNat_natCast, dt_rep]
theorem rep0T {n : Nat} {k : Int} (hk : k = (n : Nat)) (h : n ≤ 1000) : opF .Mult (.tuple [.int 0]) (.int k) = some (.frz, .tuple (dt n fun _ => 0)) := by
  subst hk
  rw [opF_rep _ _ ⟨by omega, by omega, by show 1 ≤ 1000; omega⟩, Int.toNat_natCast, dt_rep]
theorem opF_tup (xs ys : List D) (h : xs.length + ys.length ≤ sizeLine) : opF .Add (.tuple xs) (.tuple ys) = some (.frz, .tuple (xs ++ ys)) := if_pos h
theorem catT {n m : Nat} {φ ψ : Nat → Int} (h : n + m ≤ 1000000) : opF .Add (.tuple (dt n φ)) (.tuple (dt m ψ)) = some (.frz, .tuple (dt (n + m) fun i => if i < n then φ i else ψ (i - n))) := by
  rw [opF_tup _ _ (by rw [dt_len, dt_len, sizeL]; omega), dt_app]
/-! ### powers of the delay -/
section
variable {p : Nat} [NeZero p]
def zp (k : Nat) : S p := ⟨fun i => if i = k then 1 else 0⟩
theorem zp_mulF (g : Nat → Fin p) : ∀ (k n : Nat), mulF (zp (p := p) k).c g n = if n < k then 0 else g (n - k)
  | 0, n => by
    have e : (zp (p := p) 0).c = oneF := by funext i; rfl
    rw [e, one_mulF, if_neg (by omega), Nat.sub_zero]
  | k + 1, 0 => by
    show (zp (p := p) (k + 1)).c 0 * g 0 = _
    rw [if_pos (by omega)]
    show (if (0 : Nat) = k + 1 then (1 : Fin p) else 0) * g 0 = 0
    rw [if_neg (by omega)]
    grind
  | k + 1, n + 1 => by
    have e : (fun i => (zp (p := p) (k + 1)).c (i + 1)) = (zp (p := p) k).c := by
      funext i
      show (if i + 1 = k + 1 then (1 : Fin p) else 0) = if i = k then 1 else 0
      by_cases q : i = k
      · rw [if_pos q, if_pos (by omega)]
      · rw [if_neg q, if_neg (by omega)]
    rw [mulF, e, zp_mulF g k n]
    have z : (zp (p := p) (k + 1)).c 0 = 0 := by
      show (if (0 : Nat) = k + 1 then (1 : Fin p) else 0) = 0
      rw [if_neg (by omega)]
    rw [z]
    by_cases q : n < k
    · rw [if_pos q, if_pos (by omega)]
      grind
    · rw [if_neg q, if_neg (by omega), show n + 1 - (k + 1) = n - k by omega]
      grind
theorem zp_c (k : Nat) (f : S p) (n : Nat) : (zp k * f).c n = if n < k then 0 else f.c (n - k) := zp_mulF f.c k n
theorem zp_at (k n : Nat) : (zp (p := p) k).c n = if n = k then 1 else 0 := rfl
theorem zp_fs (k : Nat) : Fs (zp (p := p) k) := ⟨k + 1, fun i hi => by rw [zp_at, if_neg (by omega)]⟩
theorem ln_eq {h : S p} {n : Nat} (h1 : Le h n) (h0 : 0 < n) (h2 : h.c (n - 1) ≠ 0) : ln h = n := by
  have l1 := ln_min h1
  rcases Nat.lt_or_ge (ln h) n with q | q
  · exact absurd (ln_le ⟨n, h1⟩ (n - 1) (by omega)) h2
  · omega
theorem zp_le {f : S p} {n : Nat} (k : Nat) (h : Le f n) : Le (zp k * f) (k + n) := fun i hi => by
  rw [zp_c, if_neg (by omega), h (i - k) (by omega)]
theorem zp_ln {f : S p} (k : Nat) (hf : Fs f) (hz : f ≠ 0) : ln (zp k * f) = k + ln f := by
  obtain ⟨l1, l2⟩ := ln_last hf hz
  refine ln_eq (zp_le k (ln_le hf)) (by omega) ?_
  rw [zp_c, if_neg (by omega), show k + ln f - 1 - k = ln f - 1 by omega]
  exact l1
/-- a polynomial a power later -/
theorem shift_e {f : S p} (hf : Fs f) (hz : f ≠ 0) {k : Nat} (h : k + ln f ≤ 1000000) : opF .Add (.tuple (dt k fun _ => 0)) (po f) = some (.frz, po (zp k * f)) := by
  unfold po
  rw [catT h, zp_ln k hf hz]
  refine congrArg (fun l => some (Kd.frz, PyData.tuple l)) (dt_congr fun i hi => ?_)
  by_cases q : i < k
  · rw [if_pos q]
    refine (cf_zero.mpr ?_).symm
    rw [zp_c, if_pos q]
  · rw [if_neg q]
    unfold cf
    rw [zp_c, if_neg q]
theorem sub_po {f : S p} {i : Nat} (h : i < ln f) : subF (po f) (.int (i : Nat)) = some (.int (cf f i)) := dt_sub h
theorem subL_po {f : S p} (h : 0 < ln f) : subF (po f) (.int (-1)) = some (.int (cf f (ln f - 1))) := dt_subL h
end
section
variable {p : Nat} [NeZero p]
theorem po_cst {a : Fin p} (h : a ≠ 0) : po (cst a : S p) = .tuple [.int (a.val : Int)] := by
  have l : ln (cst a : S p) = 1 := ln_eq (fun i hi => by rw [cst_c, if_neg (by omega)]) (by omega) (by rw [cst_c, if_pos rfl]; exact h)
  unfold po
  rw [l]
  show PyData.tuple [.int (cf (cst a : S p) 0)] = _
  unfold cf
  rw [cst_c, if_pos rfl]
theorem eqF_po1 (F : Fld (Fin p)) {f : S p} (hf : Fs f) : ∃ b, eqF (po f) (.tuple [.int 1]) = some b ∧ (b = true ↔ f = 1) := by
  have := eqF_po hf (Fs.one (R := Fin p))
  rw [po_one F] at this
  exact this
end
section
variable {Φ : Nat → List Tre.Arg → Src → R (Bool × D)} {Gg : Nat → Option D} {a b c : T} {env : Tre.Env} {s s1 s2 s3 : Src}
theorem raise0_e {n : Nat} : evS Φ Gg (.raise n 0 .nil) env s = .exc n [] s := by
  simp only [evS, evA, R.bind_ok, List.length_nil, if_true, List.map_nil, scalOf, List.reverse_nil]
theorem call4 {d : T} {f : Nat} {x y z w : Kd × D} {o : Bool} {v : D} {s4 s5 : Src} (h : evE Φ Gg a env s = .ok x s1) (hk : x.1 ≠ .peek) (h' : evE Φ Gg b env s1 = .ok y s2) (hk' : y.1 ≠ .peek) (h'' : evE Φ Gg c env s2 = .ok z s3) (hk'' : z.1 ≠ .peek) (h3 : evE Φ Gg d env s3 = .ok w s4) (hk3 : w.1 ≠ .peek) (h2 : Φ f [.d x.2, .d y.2, .d z.2, .d w.2] s4 = .ok (o, v) s5) :
    evE Φ Gg (.call f (.cons a (.cons b (.cons c (.cons d .nil))))) env s = .ok (if o then .own else .frz, v) s5 := by
  simp only [evE, evG, h, h', h'', h3, R.bind_ok, if_neg hk, if_neg hk', if_neg hk'', if_neg hk3, h2]
end
end PT
set_option maxHeartbeats 0
/-! K10T: the trees of law k10. -/
namespace K10
open PySem PySem.Spec PyProof.Rows L2 Tre
def tds : List (Str × Nat × Option Str × Str) := [("_law_told", 0, none, "none")]
def fns : List Str := [("is_whole" : Str), ("is_number" : Str), ("is_polynomial" : Str), ("trimmed" : Str), ("inverse" : Str), ("added" : Str), ("scaled" : Str), ("less" : Str), ("times" : Str), ("power_of" : Str), ("shifted" : Str), ("first_of" : Str), ("parted" : Str), ("common" : Str), ("is_fraction" : Str), ("fraction" : Str), ("whole" : Str), ("sum_of" : Str), ("multiple" : Str), ("difference" : Str), ("product" : Str), ("power" : Str), ("delayed" : Str), ("ratio" : Str), ("numbers_of" : Str), ("parts_at" : Str), ("earlier" : Str), ("one_over" : Str), ("_law_pick" : Str), ("_law_of" : Str), ("_law_is_int" : Str), ("_law_is_number" : Str), ("_law_trim" : Str), ("_law_add" : Str), ("_law_mul" : Str), ("_law_inverse" : Str), ("_law_parted" : Str), ("_law_common" : Str), ("_law_numbers" : Str), ("_law_fraction" : Str), ("_law_polynomial" : Str), ("_law_drawn" : Str), ("_law_power" : Str), ("_law_is_poly" : Str), ("_law_is_one" : Str), ("_law_bent" : Str), ("_law_polynomials_right" : Str), ("_law_fractions_right" : Str), ("_law_moved_right" : Str)]
def cns : List Str := ["ONE", "NOTHING"]
def xcs : List (Str × Nat) := [("NotOfIt", 0)]
/-- is_whole, at 5 -/
def N_is_whole : List Str := ["value"]
def b_is_whole : T := (.seq (.ret (.and (.isi "int" (.v 0)) (.not (.isi "bool" (.v 0))))) .nil)
/-- is_number, at 6 -/
def N_is_number : List Str := ["p", "value"]
def b_is_number : T := (.seq (.ret (.and (.call 0 (.cons (.v 1) .nil)) (.cmp2 .LtE .Lt (.c (.int 0)) (.v 1) (.v 0)))) .nil)
/-- is_polynomial, at 7 -/
def N_is_polynomial : List Str := ["p", "value", "one"]
def b_is_polynomial : T := (.seq (.ifs (.or (.not (.isi "tuple" (.v 1))) (.not (.bi .all (.cons (.lc (.v 2) (.it (.v 1)) (.c (.bool true)) (.call 1 (.cons (.v 0) (.cons (.v 2) .nil))) [2]) .nil)))) (.seq (.ret (.c (.bool false))) .nil) .nil) (.seq (.ret (.or (.cmp .Eq (.v 1) (.tup .nil)) (.cmp .NotEq (.sub (.v 1) (.neg (.c (.int 1)))) (.c (.int 0))))) .nil))
/-- trimmed, at 8 -/
def N_trimmed : List Str := ["row", "many"]
def b_trimmed : T := (.seq (.asg (.v 1) (.bi .len (.cons (.v 0) .nil))) (.seq (.wh [] (.and (.cmp .Gt (.v 1) (.c (.int 0))) (.cmp .Eq (.sub (.v 0) (.op .Sub (.v 1) (.c (.int 1)))) (.c (.int 0)))) (.seq (.aug 1 .Sub (.c (.int 1))) .nil)) (.seq (.ret (.bi .tuple (.cons (.sl (.v 0) .nil (.cons (.v 1) .nil)) .nil))) .nil)))
/-- inverse, at 9 -/
def N_inverse : List Str := ["p", "number", "k"]
def b_inverse : T := (.seq (.ret (.sub (.lc (.v 2) (.rng (.cons (.c (.int 1)) (.cons (.v 0) .nil))) (.cmp .Eq (.op .Mod (.op .Mult (.v 2) (.v 1)) (.v 0)) (.c (.int 1))) (.v 2) [2]) (.c (.int 0)))) .nil)
/-- added, at 10 -/
def N_added : List Str := ["p", "f", "g", "found", "k", "number"]
def b_added : T := (.seq (.ifs (.cmp .Lt (.bi .len (.cons (.v 1) .nil)) (.bi .len (.cons (.v 2) .nil))) (.seq (.par (.cons (.ov 1) (.cons (.ov 2) .nil)) (.cons (.v 2) (.cons (.v 1) .nil))) (.fz [1, 2] .nil)) .nil) (.seq (.asg (.ov 3) (.bi .list (.cons (.v 1) .nil))) (.seq (.for (.tup (.cons (.v 4) (.cons (.v 5) .nil))) (.enu (.v 2)) (.seq (.setx 3 (.v 4) (.op .Mod (.op .Add (.sub (.v 3) (.v 4)) (.v 5)) (.v 0))) .nil)) (.fz [3] (.seq (.ret (.call 3 (.cons (.v 3) .nil))) .nil)))))
/-- scaled, at 11 -/
def N_scaled : List Str := ["p", "k", "f", "number"]
def b_scaled : T := (.seq (.ret (.call 3 (.cons (.lc (.v 3) (.it (.v 2)) (.c (.bool true)) (.op .Mod (.op .Mult (.v 1) (.v 3)) (.v 0)) [3]) .nil))) .nil)
/-- less, at 12 -/
def N_less : List Str := ["p", "f", "g"]
def b_less : T := (.seq (.ret (.call 5 (.cons (.v 0) (.cons (.v 1) (.cons (.call 6 (.cons (.v 0) (.cons (.op .Sub (.v 0) (.c (.int 1))) (.cons (.v 2) .nil)))) .nil))))) .nil)
/-- times, at 13 -/
def N_times : List Str := ["p", "f", "g", "found", "i", "number", "j", "other"]
def b_times : T := (.seq (.ifs (.or (.cmp .Eq (.v 1) (.tup .nil)) (.cmp .Eq (.v 2) (.tup .nil))) (.seq (.ret (.tup .nil)) .nil) .nil) (.seq (.asg (.ov 3) (.op .Mult (.lst (.cons (.c (.int 0)) .nil)) (.op .Sub (.op .Add (.bi .len (.cons (.v 1) .nil)) (.bi .len (.cons (.v 2) .nil))) (.c (.int 1))))) (.seq (.for (.tup (.cons (.v 4) (.cons (.v 5) .nil))) (.enu (.v 1)) (.seq (.ifs (.cmp .NotEq (.v 5) (.c (.int 0))) (.seq (.for (.tup (.cons (.v 6) (.cons (.v 7) .nil))) (.enu (.v 2)) (.seq (.augx 3 (.op .Add (.v 4) (.v 6)) .Add (.op .Mult (.v 5) (.v 7))) .nil)) .nil) .nil) .nil)) (.seq (.ret (.call 3 (.cons (.lc (.v 5) (.it (.v 3)) (.c (.bool true)) (.op .Mod (.v 5) (.v 0)) [5]) .nil))) .nil))))
/-- power_of, at 14 -/
def N_power_of : List Str := ["f", "some", "k", "number"]
def b_power_of : T := (.seq (.asg (.v 1) (.lc (.tup (.cons (.v 2) (.cons (.v 3) .nil))) (.enu (.v 0)) (.cmp .NotEq (.v 3) (.c (.int 0))) (.v 2) [2, 3])) (.seq (.ret (.ife (.cmp .NotEq (.v 1) (.lst .nil)) (.sub (.v 1) (.c (.int 0))) (.c .none))) .nil))
/-- shifted, at 15 -/
def N_shifted : List Str := ["f", "many"]
def b_shifted : T := (.seq (.ret (.ife (.cmp .NotEq (.v 0) (.tup .nil)) (.op .Add (.op .Mult (.tup (.cons (.c (.int 0)) .nil)) (.v 1)) (.v 0)) (.tup .nil))) .nil)
/-- first_of, at 16 -/
def N_first_of : List Str := ["f", "many"]
def b_first_of : T := (.seq (.ret (.call 3 (.cons (.sl (.v 0) .nil (.cons (.v 1) .nil)) .nil))) .nil)
/-- parted, at 17 -/
def N_parted : List Str := ["p", "f", "g", "unit", "k", "rest", "found", "number", "j", "other"]
def b_parted : T := (.seq (.par (.cons (.ov 5) (.cons (.ov 6) .nil)) (.cons (.bi .list (.cons (.v 1) .nil)) (.cons (.op .Mult (.lst (.cons (.c (.int 0)) .nil)) (.bi .max (.cons (.c (.int 0)) (.cons (.op .Add (.op .Sub (.bi .len (.cons (.v 1) .nil)) (.bi .len (.cons (.v 2) .nil))) (.c (.int 1))) .nil)))) .nil))) (.seq (.asg (.v 3) (.call 4 (.cons (.v 0) (.cons (.sub (.v 2) (.neg (.c (.int 1)))) .nil)))) (.seq (.for (.v 4) (.rvr (.cons (.bi .len (.cons (.v 6) .nil)) .nil)) (.seq (.asg (.v 7) (.op .Mod (.op .Mult (.sub (.v 5) (.op .Sub (.op .Add (.v 4) (.bi .len (.cons (.v 2) .nil))) (.c (.int 1)))) (.v 3)) (.v 0))) (.seq (.setx 6 (.v 4) (.v 7)) (.seq (.ifs (.cmp .NotEq (.v 7) (.c (.int 0))) (.seq (.for (.tup (.cons (.v 8) (.cons (.v 9) .nil))) (.enu (.v 2)) (.seq (.setx 5 (.op .Add (.v 4) (.v 8)) (.op .Mod (.op .Sub (.sub (.v 5) (.op .Add (.v 4) (.v 8))) (.op .Mult (.v 7) (.v 9))) (.v 0))) .nil)) .nil) .nil) .nil)))) (.fz [5, 6] (.seq (.ret (.tup (.cons (.call 3 (.cons (.v 6) .nil)) (.cons (.call 3 (.cons (.v 5) .nil)) .nil)))) .nil)))))
/-- common, at 18 -/
def N_common : List Str := ["p", "f", "g"]
def b_common : T := (.seq (.wh [] (.cmp .NotEq (.v 2) (.tup .nil)) (.seq (.par (.cons (.ov 1) (.cons (.ov 2) .nil)) (.cons (.v 2) (.cons (.sub (.call 12 (.cons (.v 0) (.cons (.v 1) (.cons (.v 2) .nil)))) (.c (.int 1))) .nil))) (.fz [1, 2] .nil))) (.seq (.ret (.ife (.cmp .NotEq (.v 1) (.tup .nil)) (.call 6 (.cons (.v 0) (.cons (.call 4 (.cons (.v 0) (.cons (.sub (.v 1) (.neg (.c (.int 1)))) .nil))) (.cons (.v 1) .nil)))) (.tup .nil))) .nil))
/-- is_fraction, at 21 -/
def N_is_fraction : List Str := ["p", "value", "top", "bottom", "one"]
def b_is_fraction : T := (.seq (.ifs (.or (.not (.isi "tuple" (.v 1))) (.or (.cmp .NotEq (.bi .len (.cons (.v 1) .nil)) (.c (.int 2))) (.not (.bi .all (.cons (.lc (.v 4) (.it (.v 1)) (.c (.bool true)) (.call 2 (.cons (.v 0) (.cons (.v 4) .nil))) [4]) .nil))))) (.seq (.ret (.c (.bool false))) .nil) .nil) (.seq (.asg (.tup (.cons (.v 2) (.cons (.v 3) .nil))) (.v 1)) (.seq (.ret (.and (.cmp .NotEq (.v 3) (.tup .nil)) (.and (.cmp .Eq (.sub (.v 3) (.c (.int 0))) (.c (.int 1))) (.cmp .Eq (.call 13 (.cons (.v 0) (.cons (.v 2) (.cons (.v 3) .nil)))) (.g 0))))) .nil)))
/-- fraction, at 22 -/
def N_fraction : List Str := ["p", "top", "bottom", "divisor", "unit", "above", "below"]
def b_fraction : T := (.seq (.ifs (.cmp .Eq (.v 2) (.tup .nil)) (.seq (.raise 0 0 .nil) .nil) .nil) (.seq (.asg (.v 3) (.call 13 (.cons (.v 0) (.cons (.v 1) (.cons (.v 2) .nil))))) (.seq (.par (.cons (.ov 5) (.cons (.ov 6) .nil)) (.cons (.sub (.call 12 (.cons (.v 0) (.cons (.v 1) (.cons (.v 3) .nil)))) (.c (.int 0))) (.cons (.sub (.call 12 (.cons (.v 0) (.cons (.v 2) (.cons (.v 3) .nil)))) (.c (.int 0))) .nil))) (.fz [5, 6] (.seq (.ifs (.cmp .Eq (.sub (.v 6) (.c (.int 0))) (.c (.int 0))) (.seq (.raise 0 0 .nil) .nil) .nil) (.seq (.asg (.v 4) (.call 4 (.cons (.v 0) (.cons (.sub (.v 6) (.c (.int 0))) .nil)))) (.seq (.ret (.tup (.cons (.call 6 (.cons (.v 0) (.cons (.v 4) (.cons (.v 5) .nil)))) (.cons (.call 6 (.cons (.v 0) (.cons (.v 4) (.cons (.v 6) .nil)))) .nil)))) .nil)))))))
/-- whole, at 23 -/
def N_whole : List Str := ["f"]
def b_whole : T := (.seq (.ret (.tup (.cons (.v 0) (.cons (.g 0) .nil)))) .nil)
/-- sum_of, at 24 -/
def N_sum_of : List Str := ["p", "x", "y"]
def b_sum_of : T := (.seq (.ifs (.cmp .Eq (.sub (.v 1) (.c (.int 1))) (.sub (.v 2) (.c (.int 1)))) (.seq (.ret (.ife (.cmp .NotEq (.sub (.v 1) (.c (.int 1))) (.g 0)) (.call 15 (.cons (.v 0) (.cons (.call 5 (.cons (.v 0) (.cons (.sub (.v 1) (.c (.int 0))) (.cons (.sub (.v 2) (.c (.int 0))) .nil)))) (.cons (.sub (.v 1) (.c (.int 1))) .nil)))) (.call 16 (.cons (.call 5 (.cons (.v 0) (.cons (.sub (.v 1) (.c (.int 0))) (.cons (.sub (.v 2) (.c (.int 0))) .nil)))) .nil)))) .nil) .nil) (.seq (.ret (.call 15 (.cons (.v 0) (.cons (.call 5 (.cons (.v 0) (.cons (.call 8 (.cons (.v 0) (.cons (.sub (.v 1) (.c (.int 0))) (.cons (.sub (.v 2) (.c (.int 1))) .nil)))) (.cons (.call 8 (.cons (.v 0) (.cons (.sub (.v 2) (.c (.int 0))) (.cons (.sub (.v 1) (.c (.int 1))) .nil)))) .nil)))) (.cons (.call 8 (.cons (.v 0) (.cons (.sub (.v 1) (.c (.int 1))) (.cons (.sub (.v 2) (.c (.int 1))) .nil)))) .nil))))) .nil))
/-- multiple, at 25 -/
def N_multiple : List Str := ["p", "k", "x", "top"]
def b_multiple : T := (.seq (.asg (.v 3) (.call 6 (.cons (.v 0) (.cons (.v 1) (.cons (.sub (.v 2) (.c (.int 0))) .nil))))) (.seq (.ret (.ife (.cmp .NotEq (.v 3) (.tup .nil)) (.tup (.cons (.v 3) (.cons (.sub (.v 2) (.c (.int 1))) .nil))) (.g 1))) .nil))
/-- difference, at 26 -/
def N_difference : List Str := ["p", "x", "y"]
def b_difference : T := (.seq (.ret (.call 17 (.cons (.v 0) (.cons (.v 1) (.cons (.call 18 (.cons (.v 0) (.cons (.op .Sub (.v 0) (.c (.int 1))) (.cons (.v 2) .nil)))) .nil))))) .nil)
/-- product, at 27 -/
def N_product : List Str := ["p", "x", "y", "top", "bottom"]
def b_product : T := (.seq (.ifs (.or (.cmp .Eq (.sub (.v 1) (.c (.int 0))) (.tup .nil)) (.cmp .Eq (.sub (.v 2) (.c (.int 0))) (.tup .nil))) (.seq (.ret (.g 1)) .nil) .nil) (.seq (.par (.cons (.ov 3) (.cons (.ov 4) .nil)) (.cons (.call 8 (.cons (.v 0) (.cons (.sub (.v 1) (.c (.int 0))) (.cons (.sub (.v 2) (.c (.int 0))) .nil)))) (.cons (.call 8 (.cons (.v 0) (.cons (.sub (.v 1) (.c (.int 1))) (.cons (.sub (.v 2) (.c (.int 1))) .nil)))) .nil))) (.fz [3, 4] (.seq (.ret (.ife (.cmp .NotEq (.v 4) (.g 0)) (.call 15 (.cons (.v 0) (.cons (.v 3) (.cons (.v 4) .nil)))) (.call 16 (.cons (.v 3) .nil)))) .nil))))
/-- power, at 28 -/
def N_power : List Str := ["x"]
def b_power : T := (.seq (.ret (.call 9 (.cons (.sub (.v 0) (.c (.int 0))) .nil))) .nil)
/-- delayed, at 29 -/
def N_delayed : List Str := ["x", "many"]
def b_delayed : T := (.seq (.ret (.tup (.cons (.call 10 (.cons (.sub (.v 0) (.c (.int 0))) (.cons (.v 1) .nil))) (.cons (.sub (.v 0) (.c (.int 1))) .nil)))) .nil)
/-- ratio, at 30 -/
def N_ratio : List Str := ["p", "x", "y"]
def b_ratio : T := (.seq (.ret (.call 15 (.cons (.v 0) (.cons (.call 8 (.cons (.v 0) (.cons (.sub (.v 1) (.c (.int 0))) (.cons (.sub (.v 2) (.c (.int 1))) .nil)))) (.cons (.call 8 (.cons (.v 0) (.cons (.sub (.v 1) (.c (.int 1))) (.cons (.sub (.v 2) (.c (.int 0))) .nil)))) .nil))))) .nil)
/-- numbers_of, at 31 -/
def N_numbers_of : List Str := ["p", "x", "many", "found", "k", "top", "bottom", "number", "j"]
def b_numbers_of : T := (.seq (.asg (.tup (.cons (.v 5) (.cons (.v 6) .nil))) (.v 1)) (.seq (.asg (.ov 3) (.lst .nil)) (.seq (.for (.v 4) (.rng (.cons (.v 2) .nil)) (.seq (.asg (.v 7) (.ife (.cmp .Lt (.v 4) (.bi .len (.cons (.v 5) .nil))) (.sub (.v 5) (.v 4)) (.c (.int 0)))) (.seq (.for (.v 8) (.rng (.cons (.c (.int 1)) (.cons (.bi .min (.cons (.bi .len (.cons (.v 6) .nil)) (.cons (.op .Add (.v 4) (.c (.int 1))) .nil))) .nil))) (.seq (.aug 7 .Sub (.op .Mult (.sub (.v 6) (.v 8)) (.sub (.v 3) (.op .Sub (.v 4) (.v 8))))) .nil)) (.seq (.app 3 (.op .Mod (.v 7) (.v 0))) .nil)))) (.seq (.ret (.bi .tuple (.cons (.v 3) .nil))) .nil))))
/-- parts_at, at 32 -/
def N_parts_at : List Str := ["p", "x", "many", "head"]
def b_parts_at : T := (.seq (.asg (.v 3) (.call 3 (.cons (.call 24 (.cons (.v 0) (.cons (.v 1) (.cons (.v 2) .nil)))) .nil))) (.seq (.ret (.tup (.cons (.v 3) (.cons (.call 15 (.cons (.v 0) (.cons (.sl (.call 7 (.cons (.v 0) (.cons (.sub (.v 1) (.c (.int 0))) (.cons (.call 8 (.cons (.v 0) (.cons (.v 3) (.cons (.sub (.v 1) (.c (.int 1))) .nil)))) .nil)))) (.cons (.v 2) .nil) .nil) (.cons (.sub (.v 1) (.c (.int 1))) .nil)))) .nil)))) .nil))
/-- earlier, at 33 -/
def N_earlier : List Str := ["p", "x", "many", "head", "rest"]
def b_earlier : T := (.seq (.asg (.tup (.cons (.v 3) (.cons (.v 4) .nil))) (.call 25 (.cons (.v 0) (.cons (.v 1) (.cons (.v 2) .nil))))) (.seq (.ifs (.cmp .NotEq (.v 3) (.tup .nil)) (.seq (.raise 0 0 .nil) .nil) .nil) (.seq (.ret (.v 4)) .nil)))
/-- one_over, at 34 -/
def N_one_over : List Str := ["p", "x"]
def b_one_over : T := (.seq (.ret (.call 15 (.cons (.v 0) (.cons (.sub (.v 1) (.c (.int 1))) (.cons (.sub (.v 1) (.c (.int 0))) .nil))))) .nil)
/-- _law_pick, at 37 -/
def N__law_pick : List Str := ["source", "many", "left", "mixed"]
def b__law_pick : T := (.seq (.wh [] (.and (.cmp .Gt (.v 1) (.c (.int 1))) (.and (.cmp .Lt (.srcG 0 0) (.c (.int 2))) (.cmp .Gt (.srcL 0) (.c (.int 0))))) (.seq (.srcP 0) .nil)) (.seq (.asg (.v 2) (.srcG 0 0)) (.seq (.ifs (.or (.cmp .Lt (.v 1) (.c (.int 2))) (.cmp .Gt (.v 2) (.c (.int 1)))) (.seq (.srcS 0 0 (.op .FloorDiv (.v 2) (.bi .max (.cons (.c (.int 1)) (.cons (.v 1) .nil))))) (.seq (.ret (.op .Mod (.bi .int (.cons (.v 2) .nil)) (.bi .max (.cons (.c (.int 1)) (.cons (.v 1) .nil))))) .nil)) .nil) (.seq (.srcS 2 0 (.op .Add (.srcG 2 0) (.c (.int 1)))) (.seq (.asg (.v 3) (.op .Mod (.bi .int (.cons (.op .Add (.srcG 1 0) (.op .Mult (.srcG 2 0) (.c (.int 104729)))) .nil)) (.c (.int 998244353)))) (.seq (.asg (.v 3) (.op .Mod (.bi .int (.cons (.op .Add (.op .Mult (.v 3) (.v 3)) (.op .Mult (.srcG 2 0) (.c (.int 17)))) .nil)) (.c (.int 2147483647)))) (.seq (.srcS 1 0 (.v 3)) (.seq (.ret (.op .Mod (.bi .int (.cons (.op .FloorDiv (.v 3) (.c (.int 16))) .nil)) (.v 1))) .nil))))))))
/-- _law_of, at 38 -/
def N__law_of : List Str := ["source", "some"]
def b__law_of : T := (.seq (.ret (.sub (.v 1) (.call 28 (.csrc 0 (.cons (.bi .len (.cons (.v 1) .nil)) .nil))))) .nil)
/-- _law_is_int, at 39 -/
def N__law_is_int : List Str := ["value"]
def b__law_is_int : T := (.seq (.ret (.and (.isi "int" (.v 0)) (.not (.isi "bool" (.v 0))))) .nil)
/-- _law_is_number, at 40 -/
def N__law_is_number : List Str := ["value", "least", "most"]
def b__law_is_number : T := (.seq (.ret (.and (.call 30 (.cons (.v 0) .nil)) (.cmp2 .LtE .LtE (.v 1) (.v 0) (.v 2)))) .nil)
/-- _law_trim, at 41 -/
def N__law_trim : List Str := ["line"]
def b__law_trim : T := (.seq (.asg (.ov 0) (.bi .list (.cons (.v 0) .nil))) (.seq (.wh [] (.and (.cmp .NotEq (.v 0) (.lst .nil)) (.cmp .Eq (.sub (.v 0) (.neg (.c (.int 1)))) (.c (.int 0)))) (.seq (.popS 0) .nil)) (.seq (.ret (.bi .tuple (.cons (.v 0) .nil))) .nil)))
/-- _law_add, at 42 -/
def N__law_add : List Str := ["p", "f", "k", "g", "many", "one", "other", "a", "b"]
def b__law_add : T := (.seq (.asg (.v 4) (.bi .max (.cons (.bi .len (.cons (.v 1) .nil)) (.cons (.bi .len (.cons (.v 3) .nil)) .nil)))) (.seq (.par (.cons (.ov 5) (.cons (.ov 6) .nil)) (.cons (.op .Add (.v 1) (.op .Mult (.tup (.cons (.c (.int 0)) .nil)) (.op .Sub (.v 4) (.bi .len (.cons (.v 1) .nil))))) (.cons (.op .Add (.v 3) (.op .Mult (.tup (.cons (.c (.int 0)) .nil)) (.op .Sub (.v 4) (.bi .len (.cons (.v 3) .nil))))) .nil))) (.fz [5, 6] (.seq (.ret (.call 32 (.cons (.lc (.tup (.cons (.v 7) (.cons (.v 8) .nil))) (.zip false (.v 5) (.v 6)) (.c (.bool true)) (.op .Mod (.bi .int (.cons (.op .Add (.v 7) (.op .Mult (.v 2) (.v 8))) .nil)) (.v 0)) [7, 8]) .nil))) .nil))))
/-- _law_mul, at 43 -/
def N__law_mul : List Str := ["p", "f", "g", "found", "i", "a", "j", "b"]
def b__law_mul : T := (.seq (.asg (.ov 3) (.op .Mult (.lst (.cons (.c (.int 0)) .nil)) (.op .Add (.bi .len (.cons (.v 1) .nil)) (.bi .len (.cons (.v 2) .nil))))) (.seq (.for (.tup (.cons (.v 4) (.cons (.v 5) .nil))) (.enu (.v 1)) (.seq (.for (.tup (.cons (.v 6) (.cons (.v 7) .nil))) (.enu (.v 2)) (.seq (.setx 3 (.op .Add (.v 4) (.v 6)) (.op .Mod (.bi .int (.cons (.op .Add (.sub (.v 3) (.op .Add (.v 4) (.v 6))) (.op .Mult (.v 5) (.v 7))) .nil)) (.v 0))) .nil)) .nil)) (.fz [3] (.seq (.ret (.call 32 (.cons (.v 3) .nil))) .nil))))
/-- _law_inverse, at 44 -/
def N__law_inverse : List Str := ["p", "number", "k"]
def b__law_inverse : T := (.seq (.ret (.sub (.lc (.v 2) (.rng (.cons (.c (.int 1)) (.cons (.v 0) .nil))) (.cmp .Eq (.op .Mod (.bi .int (.cons (.op .Mult (.v 2) (.v 1)) .nil)) (.v 0)) (.c (.int 1))) (.v 2) [2]) (.c (.int 0)))) .nil)
/-- _law_parted, at 45 -/
def N__law_parted : List Str := ["p", "f", "g", "found", "rest", "unit", "far", "k"]
def b__law_parted : T := (.seq (.par (.cons (.ov 3) (.cons (.ov 4) (.cons (.ov 5) .nil))) (.cons (.op .Mult (.lst (.cons (.c (.int 0)) .nil)) (.bi .max (.cons (.c (.int 0)) (.cons (.op .Add (.op .Sub (.bi .len (.cons (.v 1) .nil)) (.bi .len (.cons (.v 2) .nil))) (.c (.int 1))) .nil)))) (.cons (.v 1) (.cons (.call 35 (.cons (.v 0) (.cons (.sub (.v 2) (.neg (.c (.int 1)))) .nil))) .nil)))) (.fz [4, 5] (.seq (.wh [] (.cmp .GtE (.bi .len (.cons (.v 4) .nil)) (.bi .len (.cons (.v 2) .nil))) (.seq (.par (.cons (.ov 6) (.cons (.ov 7) .nil)) (.cons (.op .Sub (.bi .len (.cons (.v 4) .nil)) (.bi .len (.cons (.v 2) .nil))) (.cons (.op .Mod (.bi .int (.cons (.op .Mult (.sub (.v 4) (.neg (.c (.int 1)))) (.v 5)) .nil)) (.v 0)) .nil))) (.fz [6, 7] (.seq (.setx 3 (.v 6) (.v 7)) (.seq (.asg (.v 4) (.call 33 (.cons (.v 0) (.cons (.v 4) (.cons (.op .Sub (.v 0) (.v 7)) (.cons (.op .Add (.op .Mult (.tup (.cons (.c (.int 0)) .nil)) (.v 6)) (.v 2)) .nil)))))) .nil))))) (.fz [3] (.seq (.ret (.tup (.cons (.call 32 (.cons (.v 3) .nil)) (.cons (.v 4) .nil)))) .nil)))))
/-- _law_common, at 46 -/
def N__law_common : List Str := ["p", "f", "g"]
def b__law_common : T := (.seq (.wh [] (.cmp .NotEq (.v 2) (.tup .nil)) (.seq (.par (.cons (.ov 1) (.cons (.ov 2) .nil)) (.cons (.v 2) (.cons (.sub (.call 36 (.cons (.v 0) (.cons (.v 1) (.cons (.v 2) .nil)))) (.c (.int 1))) .nil))) (.fz [1, 2] .nil))) (.seq (.ret (.ife (.cmp .NotEq (.v 1) (.tup .nil)) (.call 34 (.cons (.v 0) (.cons (.tup (.cons (.call 35 (.cons (.v 0) (.cons (.sub (.v 1) (.neg (.c (.int 1)))) .nil))) .nil)) (.cons (.v 1) .nil)))) (.tup .nil))) .nil))
/-- _law_numbers, at 47 -/
def N__law_numbers : List Str := ["p", "x", "many", "k", "found", "unit", "late", "j"]
def b__law_numbers : T := (.seq (.par (.cons (.ov 4) (.cons (.ov 5) .nil)) (.cons (.lst .nil) (.cons (.call 35 (.cons (.v 0) (.cons (.sub (.sub (.v 1) (.c (.int 1))) (.c (.int 0))) .nil))) .nil))) (.fz [5] (.seq (.for (.v 3) (.rng (.cons (.v 2) .nil)) (.seq (.asg (.v 6) (.ife (.cmp .Lt (.v 3) (.bi .len (.cons (.sub (.v 1) (.c (.int 0))) .nil))) (.sub (.sub (.v 1) (.c (.int 0))) (.v 3)) (.c (.int 0)))) (.seq (.for (.v 7) (.rng (.cons (.c (.int 1)) (.cons (.bi .len (.cons (.sub (.v 1) (.c (.int 1))) .nil)) .nil))) (.seq (.asg (.v 6) (.op .Sub (.v 6) (.ife (.cmp .GtE (.v 3) (.v 7)) (.op .Mult (.sub (.sub (.v 1) (.c (.int 1))) (.v 7)) (.sub (.v 4) (.op .Sub (.v 3) (.v 7)))) (.c (.int 0))))) .nil)) (.seq (.app 4 (.op .Mod (.bi .int (.cons (.op .Mult (.v 6) (.v 5)) .nil)) (.v 0))) .nil)))) (.seq (.ret (.bi .tuple (.cons (.v 4) .nil))) .nil))))
/-- _law_fraction, at 48 -/
def N__law_fraction : List Str := ["p", "top", "bottom", "far", "unit", "one", "other"]
def b__law_fraction : T := (.seq (.ifs (.cmp .Eq (.v 2) (.tup .nil)) (.seq (.ret (.c .none)) .nil) .nil) (.seq (.asg (.v 3) (.call 37 (.cons (.v 0) (.cons (.v 1) (.cons (.v 2) .nil))))) (.seq (.par (.cons (.ov 5) (.cons (.ov 6) .nil)) (.cons (.sub (.call 36 (.cons (.v 0) (.cons (.v 1) (.cons (.v 3) .nil)))) (.c (.int 0))) (.cons (.sub (.call 36 (.cons (.v 0) (.cons (.v 2) (.cons (.v 3) .nil)))) (.c (.int 0))) .nil))) (.fz [5, 6] (.seq (.ifs (.cmp .Eq (.sub (.v 6) (.c (.int 0))) (.c (.int 0))) (.seq (.ret (.c .none)) .nil) .nil) (.seq (.asg (.v 4) (.tup (.cons (.call 35 (.cons (.v 0) (.cons (.sub (.v 6) (.c (.int 0))) .nil))) .nil))) (.seq (.ret (.tup (.cons (.call 34 (.cons (.v 0) (.cons (.v 4) (.cons (.v 5) .nil)))) (.cons (.call 34 (.cons (.v 0) (.cons (.v 4) (.cons (.v 6) .nil)))) .nil)))) .nil)))))))
/-- _law_polynomial, at 49 -/
def N__law_polynomial : List Str := ["source", "p", "most", "k"]
def b__law_polynomial : T := (.seq (.ret (.call 32 (.cons (.lc (.v 3) (.rng (.cons (.call 28 (.csrc 0 (.cons (.op .Add (.v 2) (.c (.int 1))) .nil))) .nil)) (.c (.bool true)) (.call 28 (.csrc 0 (.cons (.v 1) .nil))) [3]) .nil))) .nil)
/-- _law_drawn, at 50 -/
def N__law_drawn : List Str := ["source", "p", "most", "some"]
def b__law_drawn : T := (.seq (.asg (.v 3) (.lst (.cons (.tup (.cons (.c (.int 1)) .nil)) (.cons (.tup (.cons (.c (.int 1)) (.cons (.op .Sub (.v 1) (.c (.int 1))) .nil))) (.cons (.tup (.cons (.c (.int 1)) (.cons (.c (.int 1)) (.cons (.c (.int 1)) .nil)))) (.cons (.tup (.cons (.c (.int 1)) (.cons (.c (.int 0)) (.cons (.op .Sub (.v 1) (.c (.int 1))) .nil)))) (.cons (.op .Add (.tup (.cons (.c (.int 1)) .nil)) (.call 40 (.csrc 0 (.cons (.v 1) (.cons (.op .Sub (.v 2) (.c (.int 1))) .nil))))) .nil))))))) (.seq (.ret (.call 39 (.cons (.v 1) (.cons (.call 40 (.csrc 0 (.cons (.v 1) (.cons (.v 2) .nil)))) (.cons (.call 29 (.csrc 0 (.cons (.v 3) .nil))) .nil))))) .nil))
/-- _law_power, at 51 -/
def N__law_power : List Str := ["f", "some", "k", "number"]
def b__law_power : T := (.seq (.asg (.v 1) (.lc (.tup (.cons (.v 2) (.cons (.v 3) .nil))) (.enu (.v 0)) (.cmp .NotEq (.v 3) (.c (.int 0))) (.v 2) [2, 3])) (.seq (.ret (.ife (.cmp .NotEq (.v 1) (.lst .nil)) (.sub (.v 1) (.c (.int 0))) (.c .none))) .nil))
/-- _law_is_poly, at 53 -/
def N__law_is_poly : List Str := ["p", "value", "one"]
def b__law_is_poly : T := (.seq (.ifs (.or (.not (.isi "tuple" (.v 1))) (.cmp .NotEq (.lc (.v 2) (.it (.v 1)) (.not (.call 31 (.cons (.v 2) (.cons (.c (.int 0)) (.cons (.op .Sub (.v 0) (.c (.int 1))) .nil))))) (.c (.int 1)) [2]) (.lst .nil))) (.seq (.ret (.c (.bool false))) .nil) .nil) (.seq (.ret (.or (.cmp .Eq (.v 1) (.tup .nil)) (.cmp .NotEq (.sub (.v 1) (.neg (.c (.int 1)))) (.c (.int 0))))) .nil))
/-- _law_is_one, at 54 -/
def N__law_is_one : List Str := ["p", "value"]
def b__law_is_one : T := (.seq (.ifs (.or (.not (.isi "tuple" (.v 1))) (.cmp .NotEq (.bi .len (.cons (.v 1) .nil)) (.c (.int 2)))) (.seq (.ret (.c (.bool false))) .nil) .nil) (.seq (.ifs (.or (.not (.call 43 (.cons (.v 0) (.cons (.sub (.v 1) (.c (.int 0))) .nil)))) (.not (.call 43 (.cons (.v 0) (.cons (.sub (.v 1) (.c (.int 1))) .nil))))) (.seq (.ret (.c (.bool false))) .nil) .nil) (.seq (.ret (.and (.cmp .NotEq (.sub (.v 1) (.c (.int 1))) (.tup .nil)) (.and (.cmp .Eq (.sub (.sub (.v 1) (.c (.int 1))) (.c (.int 0))) (.c (.int 1))) (.cmp .Eq (.call 37 (.cons (.v 0) (.cons (.sub (.v 1) (.c (.int 0))) (.cons (.sub (.v 1) (.c (.int 1))) .nil)))) (.tup (.cons (.c (.int 1)) .nil)))))) .nil)))
/-- _law_bent, at 55 -/
def N__law_bent : List Str := ["source", "value", "odd", "k", "way"]
def b__law_bent : T := (.seq (.asg (.v 2) (.lst (.cons (.c .none) (.cons (.c (.bool true)) (.cons (.c (.bool false)) (.cons (.c (.int 0)) (.cons (.c (.int 1)) (.cons (.c (.int 2)) (.cons (.c (.int 4)) (.cons (.c (.int 5)) (.cons (.neg (.c (.int 1))) (.cons (.c (.str "1")) (.cons (.tup .nil) (.cons (.tup (.cons (.c (.int 1)) .nil)) (.cons (.tup (.cons (.c (.int 0)) .nil)) (.cons (.lst (.cons (.c (.int 1)) .nil)) (.cons (.tup (.cons (.tup .nil) (.cons (.tup (.cons (.c (.int 1)) .nil)) .nil))) (.cons (.tup (.cons (.tup (.cons (.c (.int 1)) .nil)) (.cons (.tup (.cons (.c (.int 2)) .nil)) .nil))) (.cons (.tup (.cons (.tup (.cons (.c (.int 0)) (.cons (.c (.int 1)) .nil))) (.cons (.tup (.cons (.c (.int 0)) (.cons (.c (.int 1)) .nil))) .nil))) .nil))))))))))))))))))) (.seq (.ifs (.or (.not (.isi "tuple" (.v 1))) (.or (.cmp .Eq (.v 1) (.tup .nil)) (.cmp .Eq (.call 28 (.csrc 0 (.cons (.c (.int 4)) .nil))) (.c (.int 0))))) (.seq (.ret (.call 29 (.csrc 0 (.cons (.v 2) .nil)))) .nil) .nil) (.seq (.par (.cons (.ov 3) (.cons (.ov 4) .nil)) (.cons (.call 28 (.csrc 0 (.cons (.bi .len (.cons (.v 1) .nil)) .nil))) (.cons (.call 28 (.csrc 0 (.cons (.c (.int 6)) .nil))) .nil))) (.fz [3, 4] (.seq (.ifs (.cmp .Eq (.v 4) (.c (.int 0))) (.seq (.ret (.op .Add (.sl (.v 1) .nil (.cons (.v 3) .nil)) (.sl (.v 1) (.cons (.op .Add (.v 3) (.c (.int 1))) .nil) .nil))) .nil) .nil) (.seq (.ifs (.cmp .Eq (.v 4) (.c (.int 1))) (.seq (.ret (.op .Add (.op .Add (.sl (.v 1) .nil (.cons (.v 3) .nil)) (.tup (.cons (.sub (.v 1) (.v 3)) (.cons (.sub (.v 1) (.v 3)) .nil)))) (.sl (.v 1) (.cons (.op .Add (.v 3) (.c (.int 1))) .nil) .nil))) .nil) .nil) (.seq (.ret (.op .Add (.op .Add (.sl (.v 1) .nil (.cons (.v 3) .nil)) (.tup (.cons (.call 45 (.csrc 0 (.cons (.sub (.v 1) (.v 3)) .nil))) .nil))) (.sl (.v 1) (.cons (.op .Add (.v 3) (.c (.int 1))) .nil) .nil))) .nil)))))))
/-- _law_polynomials_right, at 56 -/
def N__law_polynomials_right : List Str := ["source", "p", "f", "g", "told", "due", "k", "many"]
def b__law_polynomials_right : T := (.seq (.par (.cons (.ov 6) (.cons (.ov 7) .nil)) (.cons (.op .Sub (.call 28 (.csrc 0 (.cons (.c (.int 12)) .nil))) (.c (.int 6))) (.cons (.call 28 (.csrc 0 (.cons (.c (.int 6)) .nil))) .nil))) (.fz [6, 7] (.seq (.asg (.v 4) (.lst (.cons (.call 5 (.cons (.v 1) (.cons (.v 2) (.cons (.v 3) .nil)))) (.cons (.call 7 (.cons (.v 1) (.cons (.v 2) (.cons (.v 3) .nil)))) (.cons (.call 8 (.cons (.v 1) (.cons (.v 2) (.cons (.v 3) .nil)))) (.cons (.call 6 (.cons (.v 1) (.cons (.v 6) (.cons (.v 2) .nil)))) (.cons (.call 13 (.cons (.v 1) (.cons (.v 2) (.cons (.v 3) .nil)))) (.cons (.call 9 (.cons (.v 2) .nil)) .nil)))))))) (.seq (.asg (.v 5) (.lst (.cons (.call 33 (.cons (.v 1) (.cons (.v 2) (.cons (.c (.int 1)) (.cons (.v 3) .nil))))) (.cons (.call 33 (.cons (.v 1) (.cons (.v 2) (.cons (.op .Sub (.v 1) (.c (.int 1))) (.cons (.v 3) .nil))))) (.cons (.call 34 (.cons (.v 1) (.cons (.v 2) (.cons (.v 3) .nil)))) (.cons (.call 33 (.cons (.v 1) (.cons (.tup .nil) (.cons (.v 6) (.cons (.v 2) .nil))))) .nil)))))) (.seq (.ifs (.cmp .NotEq (.bi .repr (.cons (.v 4) .nil)) (.bi .repr (.cons (.op .Add (.v 5) (.lst (.cons (.call 37 (.cons (.v 1) (.cons (.v 2) (.cons (.v 3) .nil)))) (.cons (.call 42 (.cons (.v 2) .nil)) .nil)))) .nil))) (.seq (.ret (.c (.bool false))) .nil) .nil) (.seq (.asg (.v 4) (.lst (.cons (.call 10 (.cons (.v 2) (.cons (.v 7) .nil))) (.cons (.call 11 (.cons (.v 2) (.cons (.v 7) .nil))) .nil)))) (.seq (.ifs (.cmp .NotEq (.bi .repr (.cons (.v 4) .nil)) (.bi .repr (.cons (.lst (.cons (.ife (.cmp .NotEq (.v 2) (.tup .nil)) (.op .Add (.op .Mult (.tup (.cons (.c (.int 0)) .nil)) (.v 7)) (.v 2)) (.tup .nil)) (.cons (.call 32 (.cons (.sl (.v 2) .nil (.cons (.v 7) .nil)) .nil)) .nil))) .nil))) (.seq (.ret (.c (.bool false))) .nil) .nil) (.seq (.ifs (.cmp .NotEq (.bi .repr (.cons (.lc (.v 6) (.rng (.cons (.c (.int 1)) (.cons (.v 1) .nil))) (.c (.bool true)) (.call 4 (.cons (.v 1) (.cons (.v 6) .nil))) [6]) .nil)) (.bi .repr (.cons (.lc (.v 6) (.rng (.cons (.c (.int 1)) (.cons (.v 1) .nil))) (.c (.bool true)) (.call 35 (.cons (.v 1) (.cons (.v 6) .nil))) [6]) .nil))) (.seq (.ret (.c (.bool false))) .nil) .nil) (.seq (.ret (.or (.cmp .Eq (.v 3) (.tup .nil)) (.cmp .Eq (.bi .repr (.cons (.call 12 (.cons (.v 1) (.cons (.v 2) (.cons (.v 3) .nil)))) .nil)) (.bi .repr (.cons (.call 36 (.cons (.v 1) (.cons (.v 2) (.cons (.v 3) .nil)))) .nil))))) .nil)))))))))
/-- _law_fractions_right, at 57 -/
def N__law_fractions_right : List Str := ["source", "p", "x", "y", "k", "below", "due", "told", "far", "both", "m", "one", "other", "a", "b", "wanted", "is_fit", "c", "d", "i"]
def b__law_fractions_right : T := (.seq (.asg (.v 4) (.op .Sub (.call 28 (.csrc 0 (.cons (.c (.int 12)) .nil))) (.c (.int 6)))) (.seq (.par (.cons (.ov 11) (.cons (.ov 12) .nil)) (.cons (.call 34 (.cons (.v 1) (.cons (.sub (.v 2) (.c (.int 0))) (.cons (.sub (.v 3) (.c (.int 1))) .nil)))) (.cons (.call 34 (.cons (.v 1) (.cons (.sub (.v 3) (.c (.int 0))) (.cons (.sub (.v 2) (.c (.int 1))) .nil)))) .nil))) (.fz [11, 12] (.seq (.asg (.v 5) (.call 34 (.cons (.v 1) (.cons (.sub (.v 2) (.c (.int 1))) (.cons (.sub (.v 3) (.c (.int 1))) .nil))))) (.seq (.asg (.v 6) (.lst (.cons (.call 39 (.cons (.v 1) (.cons (.call 33 (.cons (.v 1) (.cons (.v 11) (.cons (.c (.int 1)) (.cons (.v 12) .nil))))) (.cons (.v 5) .nil)))) (.cons (.call 39 (.cons (.v 1) (.cons (.call 33 (.cons (.v 1) (.cons (.v 11) (.cons (.op .Sub (.v 1) (.c (.int 1))) (.cons (.v 12) .nil))))) (.cons (.v 5) .nil)))) .nil)))) (.seq (.asg (.v 6) (.op .Add (.v 6) (.lst (.cons (.call 39 (.cons (.v 1) (.cons (.call 34 (.cons (.v 1) (.cons (.sub (.v 2) (.c (.int 0))) (.cons (.sub (.v 3) (.c (.int 0))) .nil)))) (.cons (.v 5) .nil)))) (.cons (.call 39 (.cons (.v 1) (.cons (.call 33 (.cons (.v 1) (.cons (.tup .nil) (.cons (.v 4) (.cons (.sub (.v 2) (.c (.int 0))) .nil))))) (.cons (.sub (.v 2) (.c (.int 1))) .nil)))) .nil))))) (.seq (.asg (.v 7) (.lst (.cons (.call 17 (.cons (.v 1) (.cons (.v 2) (.cons (.v 3) .nil)))) (.cons (.call 19 (.cons (.v 1) (.cons (.v 2) (.cons (.v 3) .nil)))) (.cons (.call 20 (.cons (.v 1) (.cons (.v 2) (.cons (.v 3) .nil)))) (.cons (.call 18 (.cons (.v 1) (.cons (.v 4) (.cons (.v 2) .nil)))) .nil)))))) (.seq (.ifs (.cmp .NotEq (.bi .repr (.cons (.v 7) .nil)) (.bi .repr (.cons (.v 6) .nil))) (.seq (.ret (.c (.bool false))) .nil) .nil) (.seq (.asg (.v 8) (.c (.int 12))) (.seq (.par (.cons (.ov 13) (.cons (.ov 14) .nil)) (.cons (.call 38 (.cons (.v 1) (.cons (.v 2) (.cons (.v 8) .nil)))) (.cons (.call 38 (.cons (.v 1) (.cons (.v 3) (.cons (.v 8) .nil)))) .nil))) (.fz [13, 14] (.seq (.ifs (.cmp .NotEq (.bi .repr (.cons (.call 24 (.cons (.v 1) (.cons (.sub (.v 7) (.c (.int 0))) (.cons (.v 8) .nil)))) .nil)) (.bi .repr (.cons (.bi .tuple (.cons (.lc (.tup (.cons (.v 17) (.cons (.v 18) .nil))) (.zip false (.v 13) (.v 14)) (.c (.bool true)) (.op .Mod (.bi .int (.cons (.op .Add (.v 17) (.v 18)) .nil)) (.v 1)) [17, 18]) .nil)) .nil))) (.seq (.ret (.c (.bool false))) .nil) .nil) (.seq (.asg (.ov 9) (.lst .nil)) (.seq (.for (.v 10) (.rng (.cons (.v 8) .nil)) (.seq (.app 9 (.op .Mod (.bi .int (.cons (.bi .sum (.cons (.lc (.v 19) (.rng (.cons (.op .Add (.v 10) (.c (.int 1))) .nil)) (.c (.bool true)) (.op .Mult (.sub (.v 13) (.v 19)) (.sub (.v 14) (.op .Sub (.v 10) (.v 19)))) [19]) .nil)) .nil)) (.v 1))) .nil)) (.seq (.ifs (.cmp .NotEq (.bi .repr (.cons (.call 24 (.cons (.v 1) (.cons (.sub (.v 7) (.c (.int 2))) (.cons (.v 8) .nil)))) .nil)) (.bi .repr (.cons (.bi .tuple (.cons (.v 9) .nil)) .nil))) (.seq (.ret (.c (.bool false))) .nil) .nil) (.seq (.ifs (.cmp .NotEq (.sub (.v 3) (.c (.int 0))) (.tup .nil)) (.seq (.asg (.v 15) (.ife (.cmp .NotEq (.sub (.v 2) (.c (.int 0))) (.tup .nil)) (.call 39 (.cons (.v 1) (.cons (.v 11) (.cons (.v 12) .nil)))) (.tup (.cons (.tup .nil) (.cons (.tup (.cons (.c (.int 1)) .nil)) .nil))))) (.seq (.ifs (.cmp .NotEq (.bi .repr (.cons (.tried 23 0 "none" (.cons (.v 1) (.cons (.v 2) (.cons (.v 3) .nil)))) .nil)) (.bi .repr (.cons (.ife (.cmp .IsNot (.v 15) (.c .none)) (.v 15) (.c (.str "none"))) .nil))) (.seq (.ret (.c (.bool false))) .nil) .nil) (.seq (.asg (.v 16) (.or (.cmp .Eq (.sub (.v 2) (.c (.int 0))) (.tup .nil)) (.cmp .GtE (.call 42 (.cons (.sub (.v 2) (.c (.int 0))) .nil)) (.call 42 (.cons (.sub (.v 3) (.c (.int 0))) .nil))))) (.seq (.ifs (.cmp .NotEq (.v 16) (.cmp .IsNot (.v 15) (.c .none))) (.seq (.ret (.c (.bool false))) .nil) .nil) (.seq (.asg (.v 15) (.call 39 (.cons (.v 1) (.cons (.sub (.v 3) (.c (.int 1))) (.cons (.sub (.v 3) (.c (.int 0))) .nil))))) (.seq (.ifs (.cmp .NotEq (.bi .repr (.cons (.tried 27 0 "none" (.cons (.v 1) (.cons (.v 3) .nil))) .nil)) (.bi .repr (.cons (.ife (.cmp .IsNot (.v 15) (.c .none)) (.v 15) (.c (.str "none"))) .nil))) (.seq (.ret (.c (.bool false))) .nil) .nil) .nil)))))) .nil) (.seq (.ret (.c (.bool true))) .nil)))))))))))))))))
/-- _law_moved_right, at 58 -/
def N__law_moved_right : List Str := ["source", "p", "x", "many", "is_one", "late", "numbers", "head", "rest", "number"]
def b__law_moved_right : T := (.seq (.asg (.v 3) (.call 28 (.csrc 0 (.cons (.c (.int 5)) .nil)))) (.seq (.par (.cons (.ov 5) (.cons (.ov 6) .nil)) (.cons (.tup (.cons (.ife (.cmp .NotEq (.sub (.v 2) (.c (.int 0))) (.tup .nil)) (.op .Add (.op .Mult (.tup (.cons (.c (.int 0)) .nil)) (.v 3)) (.sub (.v 2) (.c (.int 0)))) (.tup .nil)) (.cons (.sub (.v 2) (.c (.int 1))) .nil))) (.cons (.call 38 (.cons (.v 1) (.cons (.v 2) (.cons (.op .Add (.v 3) (.c (.int 14))) .nil)))) .nil))) (.fz [5, 6] (.seq (.ifs (.cmp .NotEq (.bi .repr (.cons (.lst (.cons (.call 21 (.cons (.v 2) .nil)) (.cons (.call 22 (.cons (.v 2) (.cons (.v 3) .nil))) (.cons (.call 26 (.cons (.v 1) (.cons (.v 5) (.cons (.v 3) .nil)))) .nil)))) .nil)) (.bi .repr (.cons (.lst (.cons (.call 42 (.cons (.sub (.v 2) (.c (.int 0))) .nil)) (.cons (.v 5) (.cons (.v 2) .nil)))) .nil))) (.seq (.ret (.c (.bool false))) .nil) .nil) (.seq (.asg (.tup (.cons (.v 7) (.cons (.v 8) .nil))) (.call 25 (.cons (.v 1) (.cons (.v 2) (.cons (.v 3) .nil))))) (.seq (.ifs (.or (.cmp .NotEq (.bi .repr (.cons (.v 7) .nil)) (.bi .repr (.cons (.call 32 (.cons (.sl (.v 6) .nil (.cons (.v 3) .nil)) .nil)) .nil))) (.not (.call 44 (.cons (.v 1) (.cons (.v 8) .nil))))) (.seq (.ret (.c (.bool false))) .nil) .nil) (.seq (.ifs (.cmp .NotEq (.bi .repr (.cons (.call 24 (.cons (.v 1) (.cons (.v 8) (.cons (.c (.int 14)) .nil)))) .nil)) (.bi .repr (.cons (.sl (.v 6) (.cons (.v 3) .nil) .nil) .nil))) (.seq (.ret (.c (.bool false))) .nil) .nil) (.seq (.asg (.v 4) (.cmp .Eq (.lc (.v 9) (.it (.sl (.v 6) .nil (.cons (.v 3) .nil))) (.cmp .NotEq (.v 9) (.c (.int 0))) (.v 9) [9]) (.lst .nil))) (.seq (.ret (.cmp .Eq (.bi .repr (.cons (.tried 26 0 "none" (.cons (.v 1) (.cons (.v 2) (.cons (.v 3) .nil)))) .nil)) (.bi .repr (.cons (.ife (.v 4) (.v 8) (.c (.str "none"))) .nil)))) .nil)))))))))
/-- law, at 59 -/
def N_law : List Str := ["script", "source", "p", "lap", "told", "due", "y", "turn", "f", "g", "factor", "x", "value"]
def b_law : T := (.seq (.asg (.v 2) (.call 29 (.csrc 1 (.cons (.lst (.cons (.c (.int 2)) (.cons (.c (.int 3)) (.cons (.c (.int 5)) .nil)))) .nil)))) (.seq (.for (.v 3) (.rng (.cons (.c (.int 3)) .nil)) (.seq (.asg (.tup (.cons (.v 8) (.cons (.v 9) (.cons (.v 10) .nil)))) (.lc (.v 7) (.rng (.cons (.c (.int 3)) .nil)) (.c (.bool true)) (.call 40 (.csrc 1 (.cons (.v 2) (.cons (.c (.int 6)) .nil)))) [7])) (.seq (.ifs (.cmp .Eq (.call 28 (.csrc 1 (.cons (.c (.int 2)) .nil))) (.c (.int 0))) (.seq (.par (.cons (.ov 8) (.cons (.ov 9) .nil)) (.cons (.call 34 (.cons (.v 2) (.cons (.v 8) (.cons (.v 10) .nil)))) (.cons (.call 34 (.cons (.v 2) (.cons (.v 9) (.cons (.v 10) .nil)))) .nil))) (.fz [8, 9] .nil)) .nil) (.seq (.ifs (.not (.call 46 (.csrc 1 (.cons (.v 2) (.cons (.v 8) (.cons (.v 9) .nil)))))) (.seq (.ret (.c (.bool false))) .nil) .nil) (.seq (.asg (.v 5) (.call 39 (.cons (.v 2) (.cons (.v 8) (.cons (.v 9) .nil))))) (.seq (.ifs (.cmp .NotEq (.bi .repr (.cons (.tried 15 0 "none" (.cons (.v 2) (.cons (.v 8) (.cons (.v 9) .nil)))) .nil)) (.bi .repr (.cons (.ife (.cmp .IsNot (.v 5) (.c .none)) (.v 5) (.c (.str "none"))) .nil))) (.seq (.ret (.c (.bool false))) .nil) .nil) (.seq (.ifs (.cmp .NotEq (.bi .repr (.cons (.call 16 (.cons (.v 8) .nil)) .nil)) (.bi .repr (.cons (.tup (.cons (.v 8) (.cons (.tup (.cons (.c (.int 1)) .nil)) .nil))) .nil))) (.seq (.ret (.c (.bool false))) .nil) .nil) (.seq (.par (.cons (.ov 11) (.cons (.ov 6) .nil)) (.cons (.call 41 (.csrc 1 (.cons (.v 2) (.cons (.c (.int 5)) .nil)))) (.cons (.call 41 (.csrc 1 (.cons (.v 2) (.cons (.c (.int 5)) .nil)))) .nil))) (.fz [6, 11] (.seq (.asg (.v 6) (.ife (.cmp .Eq (.call 28 (.csrc 1 (.cons (.c (.int 6)) .nil))) (.c (.int 0))) (.v 11) (.v 6))) (.seq (.ifs (.or (.not (.call 47 (.csrc 1 (.cons (.v 2) (.cons (.v 11) (.cons (.v 6) .nil)))))) (.not (.call 48 (.csrc 1 (.cons (.v 2) (.cons (.v 11) .nil)))))) (.seq (.ret (.c (.bool false))) .nil) .nil) (.seq (.for (.v 7) (.rng (.cons (.c (.int 5)) .nil)) (.seq (.asg (.v 12) (.call 45 (.csrc 1 (.cons (.v 11) .nil)))) (.seq (.asg (.v 4) (.lst (.cons (.call 14 (.cons (.v 2) (.cons (.v 12) .nil))) (.cons (.call 2 (.cons (.v 2) (.cons (.v 12) .nil))) .nil)))) (.seq (.ifs (.cmp .NotEq (.bi .repr (.cons (.v 4) .nil)) (.bi .repr (.cons (.lst (.cons (.call 44 (.cons (.v 2) (.cons (.v 12) .nil))) (.cons (.call 43 (.cons (.v 2) (.cons (.v 12) .nil))) .nil))) .nil))) (.seq (.ret (.c (.bool false))) .nil) .nil) .nil)))) (.seq (.ifs (.cmp .NotEq (.lst (.cons (.call 14 (.cons (.v 2) (.cons (.v 11) .nil))) (.cons (.call 2 (.cons (.v 2) (.cons (.v 8) .nil))) (.cons (.call 2 (.cons (.v 2) (.cons (.bi .list (.cons (.v 8) .nil)) .nil))) .nil)))) (.lst (.cons (.c (.bool true)) (.cons (.c (.bool true)) (.cons (.c (.bool false)) .nil))))) (.seq (.ret (.c (.bool false))) .nil) .nil) .nil))))))))))))) (.seq (.asg (.v 4) (.lst (.cons (.call 15 (.cons (.c (.int 3)) (.cons (.tup (.cons (.c (.int 2)) (.cons (.c (.int 1)) .nil))) (.cons (.tup (.cons (.c (.int 1)) (.cons (.c (.int 2)) .nil))) .nil)))) (.cons (.call 15 (.cons (.c (.int 2)) (.cons (.tup (.cons (.c (.int 0)) (.cons (.c (.int 1)) (.cons (.c (.int 1)) .nil)))) (.cons (.tup (.cons (.c (.int 0)) (.cons (.c (.int 1)) .nil))) .nil)))) (.cons (.call 23 (.cons (.c (.int 3)) (.cons (.tup (.cons (.tup (.cons (.c (.int 0)) (.cons (.c (.int 1)) .nil))) (.cons (.tup (.cons (.c (.int 1)) .nil)) .nil))) (.cons (.tup (.cons (.tup (.cons (.c (.int 1)) .nil)) (.cons (.tup (.cons (.c (.int 1)) (.cons (.c (.int 2)) .nil))) .nil))) .nil)))) .nil))))) (.seq (.ret (.cmp .Eq (.bi .repr (.cons (.v 4) .nil)) (.bi .repr (.cons (.lst (.cons (.tup (.cons (.tup (.cons (.c (.int 2)) .nil)) (.cons (.tup (.cons (.c (.int 1)) .nil)) .nil))) (.cons (.tup (.cons (.tup (.cons (.c (.int 1)) (.cons (.c (.int 1)) .nil))) (.cons (.tup (.cons (.c (.int 1)) .nil)) .nil))) (.cons (.tup (.cons (.tup (.cons (.c (.int 0)) (.cons (.c (.int 1)) (.cons (.c (.int 2)) .nil)))) (.cons (.tup (.cons (.c (.int 1)) .nil)) .nil))) .nil)))) .nil)))) .nil))))
def P : List Fn := [.body 1 1 b_is_whole,
  .body 2 2 b_is_number,
  .body 2 3 b_is_polynomial,
  .body 1 2 b_trimmed,
  .body 2 3 b_inverse,
  .body 3 6 b_added,
  .body 3 4 b_scaled,
  .body 3 3 b_less,
  .body 3 8 b_times,
  .body 1 4 b_power_of,
  .body 2 2 b_shifted,
  .body 2 2 b_first_of,
  .body 3 10 b_parted,
  .body 3 3 b_common,
  .body 2 5 b_is_fraction,
  .body 3 7 b_fraction,
  .body 1 1 b_whole,
  .body 3 3 b_sum_of,
  .body 3 4 b_multiple,
  .body 3 3 b_difference,
  .body 3 5 b_product,
  .body 1 1 b_power,
  .body 2 2 b_delayed,
  .body 3 3 b_ratio,
  .body 3 9 b_numbers_of,
  .body 3 4 b_parts_at,
  .body 3 5 b_earlier,
  .body 2 2 b_one_over,
  .body 2 4 b__law_pick,
  .body 2 2 b__law_of,
  .body 1 1 b__law_is_int,
  .body 3 3 b__law_is_number,
  .body 1 1 b__law_trim,
  .body 4 9 b__law_add,
  .body 3 8 b__law_mul,
  .body 2 3 b__law_inverse,
  .body 3 8 b__law_parted,
  .body 3 3 b__law_common,
  .body 3 8 b__law_numbers,
  .body 3 7 b__law_fraction,
  .body 3 4 b__law_polynomial,
  .body 3 4 b__law_drawn,
  .body 1 4 b__law_power,
  .body 2 3 b__law_is_poly,
  .body 2 2 b__law_is_one,
  .body 2 5 b__law_bent,
  .body 4 8 b__law_polynomials_right,
  .body 4 20 b__law_fractions_right,
  .body 3 10 b__law_moved_right]
def cons : List (Str × D) := [("ONE", .tuple [.int (1)]), ("NOTHING", .tuple [.tuple [], .tuple [.int (1)]])]
end K10
set_option maxHeartbeats 1000000
/-! K10A: rows of numbers trimmed, added, scaled. -/
namespace K10
open PySem PySem.Spec PyProof.Rows L2 Tre PT Pol

abbrev G := gOf cons
noncomputable abbrev Ph := Phi P G
theorem pick_ok (k : Nat) : Picks (Ph (k + 1) 28) := fun s m h1 h2 => pick_gen s m h1 h2
theorem of_ok (k : Nat) : Ofs (Ph (k + 2) 29) := fun s xs h1 h2 => of_gen (pick_ok k) s xs h1 h2

/-! ### trimmed -/
def trC : T := (.and (.cmp .Gt (.v 1) (.c (.int 0))) (.cmp .Eq (.sub (.v 0) (.op .Sub (.v 1) (.c (.int 1)))) (.c (.int 0))))
def trB : T := (.seq (.aug 1 .Sub (.c (.int 1))) .nil)
theorem tr_loop {Φ : Nat → List Tre.Arg → Src → R (Bool × D)} {Gg : Nat → Option D} {row : D} {N : Nat} {φ : Nat → Int} (hr : row = .list (dt N φ) ∨ row = .tuple (dt N φ)) (s : Src) : ∀ n, n ≤ N →
    evS Φ Gg (.wh [] trC trB) [.d false row, .d false (.int n)] s = .ok (.next [.d false row, .d false (.int (tm n φ : Nat))]) s
  | 0, _ => by
    simp only [evS]
    refine whR_end (d := .bool false) ?_ rfl
    unfold trC fzE
    simp [evE, cmpF, i2F, truth, R.of]
  | n + 1, h => by
    have e0 : subF row (.int n) = some (.int (φ n)) := by
      rcases hr with rfl | rfl <;> exact dt_sub (by omega)
    have ev : (evE Φ Gg trC [.d false row, .d false (.int ((n + 1 : Nat) : Int))] s).bind (fun x s => R.ok x.2 s) = .ok (.bool (decide (φ n = 0))) s := by
      unfold trC
      have h1 : (0 : Int) < (n : Int) + 1 := by omega
      have h2 : (n : Int) + 1 - 1 = n := by omega
      simp [evE, cmpF, i2F, opF, truth, R.of, h1, h2, e0, eqF_i]
    unfold tm
    by_cases hz : φ n = 0
    · rw [if_pos hz, ← tr_loop (Φ := Φ) (Gg := Gg) hr s n (by omega)]
      rw [decide_eq_true hz] at ev
      simp only [evS]
      refine whR_next (d := .bool true) ev rfl ?_
      have h2 : ((n + 1 : Nat) : Int) - 1 = n := by omega
      unfold trB fzE
      simp only [evS, evE, Tre.opI]
      simp [h2, Tre.opI]
    · rw [if_neg hz]
      rw [decide_eq_false hz] at ev
      simp only [evS]
      exact whR_end (d := .bool false) ev rfl
theorem trimmed_ok (k : Nat) (s : Src) {row : D} {N : Nat} {φ : Nat → Int} (hr : row = .list (dt N φ) ∨ row = .tuple (dt N φ)) : Ph (k + 1) 3 [.d row] s = .ok (false, .tuple (dt (tm N φ) φ)) s := by
  show endF (evS (Ph k) G b_trimmed [.d false row, .e] s) = _
  unfold b_trimmed
  have e1 : biF .len [row] = some (.frz, .int N) := by
    rcases hr with rfl | rfl <;> simp [biF, dt_len]
  rw [seq_next (env' := [.d false row, .d false (.int N)]) (s' := s) (by simp [evS, evE, evA, R.of, e1, bindT, putE])]
  have lp := tr_loop (Φ := Ph k) (Gg := G) hr s N (Nat.le_refl _)
  unfold trC trB at lp
  rw [seq_next lp]
  have e2 : ∃ kd d, slF row none (some ((tm N φ : Nat) : Int)) = some (kd, d) ∧ biF .tuple [d] = some (.frz, .tuple (dt (tm N φ) φ)) := by
    have e3 : Tre.cutD (dt N φ) none (some ((tm N φ : Nat) : Int)) = dt (tm N φ) φ := by
      rw [cut_hi, dt_take, Nat.min_eq_left (tm_le N φ)]
    rcases hr with rfl | rfl
    · exact ⟨.own, .list (dt (tm N φ) φ), by simp only [slF, e3], rfl⟩
    · exact ⟨.frz, .tuple (dt (tm N φ) φ), by simp only [slF, e3], rfl⟩
  obtain ⟨kd, d, e2, e4⟩ := e2
  refine congrArg endF (seq_ret (o := false) (ret_e (k := .frz) (bi1 (x := (kd, d)) (s1 := s) ?_ e4)))
  simp only [evE, evO, R.bind_ok, intPart, R.of_some, List.getElem?_cons_zero, List.getElem?_cons_succ, e2]
/-! ### _law_trim -/
def ltC : T := (.and (.cmp .NotEq (.v 0) (.lst .nil)) (.cmp .Eq (.sub (.v 0) (.neg (.c (.int 1)))) (.c (.int 0))))
def ltB : T := (.seq (.popS 0) .nil)
theorem lt_loop {Φ : Nat → List Tre.Arg → Src → R (Bool × D)} {Gg : Nat → Option D} {φ : Nat → Int} (s : Src) : ∀ n,
    evS Φ Gg (.wh [] ltC ltB) [.d true (.list (dt n φ))] s = .ok (.next [.d true (.list (dt (tm n φ) φ))]) s
  | 0 => by
    simp only [evS]
    refine whR_end (d := .bool false) ?_ rfl
    unfold ltC fzE
    simp [evE, evA, cmpF, noPeek, eqF_nil, truth, R.of, dt_nil]
  | n + 1 => by
    have hne : (dt (n + 1) φ).isEmpty = false := by
      rw [List.isEmpty_eq_false_iff]
      exact fun z => by rw [dt_ne] at z; omega
    have ev : (evE Φ Gg ltC [.d true (.list (dt (n + 1) φ))] s).bind (fun x s => R.ok x.2 s) = .ok (.bool (decide (φ n = 0))) s := by
      unfold ltC
      have e0 : subF (.list (dt (n + 1) φ)) (.int (-1)) = some (.int (φ n)) := dt_subL (by omega)
      simp [evE, evA, cmpF, noPeek, eqF_nil, hne, truth, R.of, e0, eqF_i]
    unfold tm
    by_cases hz : φ n = 0
    · rw [if_pos hz, ← lt_loop (Φ := Φ) (Gg := Gg) s n]
      rw [decide_eq_true hz] at ev
      simp only [evS]
      refine whR_next (d := .bool true) ev rfl ?_
      unfold ltB fzE
      simp [evS, ownL, dt_len, dt_last]
    · rw [if_neg hz]
      rw [decide_eq_false hz] at ev
      simp only [evS]
      exact whR_end (d := .bool false) ev rfl
theorem ltrim_ok (k : Nat) (s : Src) {row : D} {N : Nat} {φ : Nat → Int} (hr : row = .list (dt N φ) ∨ row = .tuple (dt N φ)) : Ph (k + 1) 32 [.d row] s = .ok (false, .tuple (dt (tm N φ) φ)) s := by
  show endF (evS (Ph k) G b__law_trim [.d false row] s) = _
  unfold b__law_trim
  have e1 : biF .list [row] = some (.own, .list (dt N φ)) := by
    rcases hr with rfl | rfl <;> rfl
  rw [seq_next (env' := [.d true (.list (dt N φ))]) (s' := s) (by simp [evS, evE, evA, R.of, e1, bindT, putE])]
  have lp := lt_loop (Φ := Ph k) (Gg := G) (φ := φ) s N
  unfold ltC ltB at lp
  rw [seq_next lp]
  exact congrArg endF (seq_ret (o := false) (ret_e (k := .frz) (bi1 (x := (.peek, .list _)) (s1 := s) (vo_e rfl) rfl)))
/-- a trimmed row is a polynomial -/
theorem trimmed_po {p : Nat} [NeZero p] (k : Nat) (s : Src) {row : D} {N : Nat} {φ : Nat → Int} {h : Pol.Ser (Fin p)} (hr : row = .list (dt N φ) ∨ row = .tuple (dt N φ)) (hn : Le h N) (e : ∀ i, i < N → φ i = cf h i) : Ph (k + 1) 3 [.d row] s = .ok (false, po h) s := by
  rw [trimmed_ok k s hr, tm_po hn e]
theorem ltrim_po {p : Nat} [NeZero p] (k : Nat) (s : Src) {row : D} {N : Nat} {φ : Nat → Int} {h : Pol.Ser (Fin p)} (hr : row = .list (dt N φ) ∨ row = .tuple (dt N φ)) (hn : Le h N) (e : ∀ i, i < N → φ i = cf h i) : Ph (k + 1) 32 [.d row] s = .ok (false, po h) s := by
  rw [ltrim_ok k s hr, tm_po hn e]
end K10
set_option maxHeartbeats 1000000
/-! K10B: inverses, sums, products. -/
namespace K10
open PySem PySem.Spec PyProof.Rows L2 Tre PT Pol

/-- a prime that is drawn -/
structure Pr (p : Nat) [NeZero p] : Prop where
  F : Fld (Fin p)
  le : p ≤ 5
section
variable {p : Nat} [NeZero p]
theorem Pr.two (h : Pr p) : 2 ≤ p := by
  have h0 : p ≠ 0 := NeZero.ne p
  have h1 : p ≠ 1 := fun z => by
    subst z
    exact h.F.ne (Fin.ext (by omega))
  omega
noncomputable def inv (a : Fin p) : Fin p := open Classical in if h : ∃ b, a * b = 1 then h.choose else 0
theorem inv_ok (h : Pr p) {a : Fin p} (ha : a ≠ 0) : a * inv a = 1 := by
  unfold inv
  rw [dif_pos (h.F.inv a ha)]
  exact (h.F.inv a ha).choose_spec
theorem inv_uniq (h : Pr p) {a b : Fin p} (e : a * b = 1) : b = inv a := by
  have ha : a ≠ 0 := fun z => h.F.ne (by grind)
  have := inv_ok h ha
  grind
theorem val_nz {a : Fin p} (ha : a ≠ 0) : 1 ≤ (a.val : Int) := by
  have : a.val ≠ 0 := fun z => ha (Fin.ext z)
  omega
/-- the first number by which one is multiplied to be 1 -/
theorem inv_list (h : Pr p) {a : Fin p} (ha : a ≠ 0) : ∃ r, (((rngD 1 (p - 1)).filter fun x => match x with
    | .int k => decide (k * (a.val : Int) % (p : Int) = 1)
    | _ => false).map fun x => x) = .int ((inv a).val : Int) :: r := by
  rw [List.map_id']
  have h2 := h.two
  have one : ((1 : Fin p).val : Int) = 1 := by
    have := fi_val (p := p) 1
    rw [fi_one, Int.emod_eq_of_lt (by omega) (by omega)] at this
    exact this
  have hm : PyData.int ((inv a).val : Int) ∈ (rngD 1 (p - 1)).filter fun x => match x with
    | .int k => decide (k * (a.val : Int) % (p : Int) = 1)
    | _ => false := by
    have hi : inv a ≠ 0 := fun z => h.F.ne (by have := inv_ok h ha; rw [z] at this; grind)
    refine List.mem_filter.mpr ⟨?_, ?_⟩
    · unfold rngD
      have h1 := val_nz hi
      have h3 := (inv a).isLt
      exact List.mem_map.mpr ⟨(inv a).val - 1, List.mem_range.mpr (by omega), congrArg PyData.int (by omega)⟩
    · refine (decide_eq_true_iff.mpr ?_)
      have := fi_val (p := p) (((inv a).val : Int) * (a.val : Int))
      rw [← this, fi_mul, fi_of, fi_of]
      rw [show inv a * a = 1 by have := inv_ok h ha; grind]
      exact one
  cases hl : (rngD 1 (p - 1)).filter (fun x => match x with
    | .int k => decide (k * (a.val : Int) % (p : Int) = 1)
    | _ => false) with
  | nil => rw [hl] at hm; cases hm
  | cons x r =>
    have hx : x ∈ (rngD 1 (p - 1)).filter fun x => match x with
      | .int k => decide (k * (a.val : Int) % (p : Int) = 1)
      | _ => false := by rw [hl]; exact List.mem_cons_self
    obtain ⟨hx1, hx2⟩ := List.mem_filter.mp hx
    unfold rngD at hx1
    obtain ⟨i, hi, rfl⟩ := List.mem_map.mp hx1
    have hi := List.mem_range.mp hi
    have hx2 : (1 + (i : Nat) : Int) * (a.val : Int) % (p : Int) = 1 := of_decide_eq_true hx2
    have e1 : a * fi p (1 + (i : Nat) : Int) = 1 := by
      apply Fin.ext
      have := fi_val (p := p) ((1 + (i : Nat) : Int) * (a.val : Int))
      rw [fi_mul, fi_of, hx2] at this
      rw [show a * fi p (1 + (i : Nat) : Int) = fi p (1 + (i : Nat) : Int) * a by grind]
      omega
    have e2 := inv_uniq h e1
    refine ⟨r, ?_⟩
    have e3 := fi_val (p := p) (1 + (i : Nat) : Int)
    rw [e2, Int.emod_eq_of_lt (by omega) (by omega)] at e3
    rw [e3]
theorem inverse_ok (h : Pr p) (k : Nat) (s : Src) {a : Fin p} (ha : a ≠ 0) : Ph (k + 1) 4 [.d (.int (p : Int)), .d (.int (a.val : Int))] s = .ok (false, .int ((inv a).val : Int)) s := by
  show endF (evS (Ph k) G b_inverse [.d false (.int (p : Int)), .d false (.int (a.val : Int)), .e] s) = _
  unfold b_inverse
  have h2 := h.two
  have h5 := h.le
  obtain ⟨r, er⟩ := inv_list h ha
  have lc := lc_gen (Φ := Ph k) (Gg := G) (tg := .v 2) (it := .rng (.cons (.c (.int 1)) (.cons (.v 0) .nil))) (cond := .cmp .Eq (.op .Mod (.op .Mult (.v 2) (.v 1)) (.v 0)) (.c (.int 1))) (elt := .v 2) (ws := [2]) (env := [.d false (.int (p : Int)), .d false (.int (a.val : Int)), .e]) (s := s) (s1 := s) (pk := false) (xs := rngD 1 (p - 1)) (p := fun x => match x with
    | .int k => decide (k * (a.val : Int) % (p : Int) = 1)
    | _ => false) (g := fun x => x)
    (by
      have e : ((p : Int) - 1).toNat = p - 1 := by omega
      rw [← e]
      exact rng2_e ev_c (v_e rfl) (by omega) (by omega)) (by unfold rngD; rw [List.length_map, List.length_range, sizeL]; omega) (fun x hx => by
      obtain ⟨i, hi, rfl⟩ := List.mem_map.mp hx
      have hi := List.mem_range.mp hi
      have hc : -1000000 < (1 + (i : Nat) : Int) ∧ (1 + (i : Nat) : Int) < 1000000 := by omega
      exact ⟨[.d false (.int (p : Int)), .d false (.int (a.val : Int)), .d false (.int (1 + (i : Nat)))], rfl, ⟨.frz, cmp_e (op_e (op_e (v_e rfl) (v_e rfl) (om (.inl hc))) (v_e rfl) (omod (by omega))) ev_c (eqF_i _ _)⟩, fun _ => ⟨.frz, by decide, v_e rfl⟩⟩)
  rw [er] at lc
  exact congrArg endF (seq_ret (o := false) (ret_e (k := .frz) (sub_e lc ev_c (x := (.own, .list (.int ((inv a).val : Int) :: r))) (y := (.frz, .int 0)) (Tre.atI_nat _ 0))))
theorem linverse_ok (h : Pr p) (k : Nat) (s : Src) {a : Fin p} (ha : a ≠ 0) : Ph (k + 1) 35 [.d (.int (p : Int)), .d (.int (a.val : Int))] s = .ok (false, .int ((inv a).val : Int)) s := by
  show endF (evS (Ph k) G b__law_inverse [.d false (.int (p : Int)), .d false (.int (a.val : Int)), .e] s) = _
  unfold b__law_inverse
  have h2 := h.two
  have h5 := h.le
  obtain ⟨r, er⟩ := inv_list h ha
  have lc := lc_gen (Φ := Ph k) (Gg := G) (tg := .v 2) (it := .rng (.cons (.c (.int 1)) (.cons (.v 0) .nil))) (cond := .cmp .Eq (.op .Mod (.bi .int (.cons (.op .Mult (.v 2) (.v 1)) .nil)) (.v 0)) (.c (.int 1))) (elt := .v 2) (ws := [2]) (env := [.d false (.int (p : Int)), .d false (.int (a.val : Int)), .e]) (s := s) (s1 := s) (pk := false) (xs := rngD 1 (p - 1)) (p := fun x => match x with
    | .int k => decide (k * (a.val : Int) % (p : Int) = 1)
    | _ => false) (g := fun x => x)
    (by
      have e : ((p : Int) - 1).toNat = p - 1 := by omega
      rw [← e]
      exact rng2_e ev_c (v_e rfl) (by omega) (by omega)) (by unfold rngD; rw [List.length_map, List.length_range, sizeL]; omega) (fun x hx => by
      obtain ⟨i, hi, rfl⟩ := List.mem_map.mp hx
      have hi := List.mem_range.mp hi
      have hc : -1000000 < (1 + (i : Nat) : Int) ∧ (1 + (i : Nat) : Int) < 1000000 := by omega
      exact ⟨[.d false (.int (p : Int)), .d false (.int (a.val : Int)), .d false (.int (1 + (i : Nat)))], rfl, ⟨.frz, cmp_e (op_e (bi1 (op_e (v_e rfl) (v_e rfl) (om (.inl hc))) (z := (.frz, .int ((1 + (i : Nat) : Int) * (a.val : Int)))) rfl) (v_e rfl) (omod (by omega))) ev_c (eqF_i _ _)⟩, fun _ => ⟨.frz, by decide, v_e rfl⟩⟩)
  rw [er] at lc
  exact congrArg endF (seq_ret (o := false) (ret_e (k := .frz) (sub_e lc ev_c (x := (.own, .list (.int ((inv a).val : Int) :: r))) (y := (.frz, .int 0)) (Tre.atI_nat _ 0))))
/-! ### sums -/
theorem len_po (f : S p) : biF .len [po f] = some (.frz, .int (ln f : Nat)) := by
  unfold po
  show some (Kd.frz, PyData.int ((dt _ _).length : Nat)) = _
  rw [dt_len]
/-- the loop of added -/
theorem added_loop (h : Pr p) (k : Nat) (s : Src) {f g : S p} (hf : Fs f) (hg : Fs g) (hl : ln g ≤ ln f) (u v : Slot) :
    endF (evS (Ph (k + 1)) G (.seq (.asg (.ov 3) (.bi .list (.cons (.v 1) .nil))) (.seq (.for (.tup (.cons (.v 4) (.cons (.v 5) .nil))) (.enu (.v 2)) (.seq (.setx 3 (.v 4) (.op .Mod (.op .Add (.sub (.v 3) (.v 4)) (.v 5)) (.v 0))) .nil)) (.fz [3] (.seq (.ret (.call 3 (.cons (.v 3) .nil))) .nil))))
      [.d false (.int (p : Int)), .d false (po f), .d false (po g), .e, .e, .e] s) = .ok (false, po (f + g)) s := by
  have h2 := h.two
  rw [seq_next (env' := [.d false (.int (p : Int)), .d false (po f), .d false (po g), .d true (.list (dt (ln f) (cf f))), .e, .e]) (s' := s) (asg_e (x := (.own, .list (dt (ln f) (cf f)))) (bi1 (x := (.frz, po f)) (v_e rfl) rfl) rfl)]
  obtain ⟨env', e1, a, b, rfl⟩ := for_ind (Φ := Ph (k + 1)) (Gg := G) (tg := .tup (.cons (.v 4) (.cons (.v 5) .nil))) (it := .enu (.v 2)) (b := .seq (.setx 3 (.v 4) (.op .Mod (.op .Add (.sub (.v 3) (.v 4)) (.v 5)) (.v 0))) .nil)
    (env := [.d false (.int (p : Int)), .d false (po f), .d false (po g), .d true (.list (dt (ln f) (cf f))), .e, .e]) (s := s) (s1 := s) (xs := enuD 0 (dt (ln g) (cf g)))
    (fun j env => ∃ a b, env = [.d false (.int (p : Int)), .d false (po f), .d false (po g), .d true (.list (dt (ln f) fun i => if i < j then (cf f i + cf g i) % p else cf f i)), a, b])
    (enu_e (v_e rfl) (.inl rfl) (by decide)) ⟨.e, .e, by simp⟩ (fun j x env hx ⟨a, b, hE⟩ => by
      have hj : j < ln g := by
        have := (List.getElem?_eq_some_iff.mp hx).1
        rw [enu_len, dt_len] at this
        exact this
      rw [dt_enu hj] at hx
      cases hx
      subst hE
      have hjf : j < ln f := by omega
      have e0 : subF (.list (dt (ln f) fun i => if i < j then (cf f i + cf g i) % (p : Int) else cf f i)) (.int (j : Nat)) = some (.int (cf f j)) := by
        show atI _ _ = _
        rw [dt_sub hjf, if_neg (by omega)]
      refine ⟨[.d false (.int (p : Int)), .d false (po f), .d false (po g), .d true (.list (dt (ln f) fun i => if i < j then (cf f i + cf g i) % p else cf f i)), .d false (.int (j : Nat)), .d false (.int (cf g j))], _, rfl,
        one_e (setx_e (k := .frz) (v := (cf f j + cf g j) % (p : Int)) (j := j) (n := ln f) rfl (op_e (op_e (sub_e (x := (.peek, _)) (vo_e rfl) (v_e rfl) e0) (v_e rfl) (oa _ _)) (v_e rfl) (omod (by omega))) (by decide) (v_e rfl) hjf), .d false (.int (j : Nat)), .d false (.int (cf g j)), ?_⟩
      have e4 : (dt (ln f) fun m => if m = j then (cf f j + cf g j) % (p : Int) else if m < j then (cf f m + cf g m) % (p : Int) else cf f m) = dt (ln f) fun i => if i < j + 1 then (cf f i + cf g i) % (p : Int) else cf f i := by
        refine dt_congr fun i hi => ?_
        by_cases q : i = j
        · subst q; rw [if_pos rfl, if_pos (by omega)]
        · rw [if_neg q]
          by_cases q2 : i < j
          · rw [if_pos q2, if_pos (by omega)]
          · rw [if_neg q2, if_neg (by omega)]
      rw [← e4]
      rfl)
  rw [seq_next e1, enu_len, dt_len]
  have tr := trimmed_po (p := p) k s (row := .list (dt (ln f) fun i => if i < ln g then (cf f i + cf g i) % (p : Int) else cf f i)) (N := ln f) (h := f + g) (.inl rfl) (by
      have h1 := ln_le hf
      have h2 := (ln_le hg).mono hl
      exact h1.add h2) (fun i hi => by
    by_cases q : i < ln g
    · rw [if_pos q]
      exact cf_fi (by rw [fi_add, fi_cf, fi_cf]; rfl)
    · rw [if_neg q]
      unfold cf
      rw [add_c, ln_le hg i (by omega)]
      have : f.c i + 0 = f.c i := by grind
      rw [this])
  rw [fz_e (env' := [.d false (.int (p : Int)), .d false (po f), .d false (po g), .d false (.list (dt (ln f) fun i => if i < ln g then (cf f i + cf g i) % (p : Int) else cf f i)), a, b]) rfl]
  exact congrArg endF (seq_ret (o := false) (ret_e (k := .frz) (call1 (x := (.frz, _)) (o := false) (v_e rfl) frzN tr)))
theorem added_ok (h : Pr p) (k : Nat) (s : Src) {f g : S p} (hf : Fs f) (hg : Fs g) : Ph (k + 2) 5 [.d (.int (p : Int)), .d (po f), .d (po g)] s = .ok (false, po (f + g)) s := by
  show endF (evS (Ph (k + 1)) G b_added [.d false (.int (p : Int)), .d false (po f), .d false (po g), .e, .e, .e] s) = _
  unfold b_added
  by_cases hl : ln f < ln g
  · rw [seq_next (env' := [.d false (.int (p : Int)), .d false (po g), .d false (po f), .e, .e, .e]) (s' := s) (by
      rw [ifs_t (x := (.frz, .bool true)) (s' := s) (cmp_e (bi1 (x := (.frz, po f)) (v_e rfl) (len_po f)) (bi1 (x := (.frz, po g)) (v_e rfl) (len_po g)) (clt (dtr (by omega)))) rfl]
      rw [seq_next (par_e (ea_cons (v_e rfl) (ea_cons (v_e rfl) ea_nil)) (env' := [.d false (.int (p : Int)), .d false (po g), .d false (po f), .e, .e, .e]) rfl), fz_e (env' := [.d false (.int (p : Int)), .d false (po g), .d false (po f), .e, .e, .e]) rfl, ev_nil])]
    rw [show f + g = g + f by grind]
    exact added_loop h k s hg hf (by omega) .e .e
  · rw [seq_next (env' := [.d false (.int (p : Int)), .d false (po f), .d false (po g), .e, .e, .e]) (s' := s) (by
      rw [ifs_f (x := (.frz, .bool false)) (s' := s) (cmp_e (bi1 (x := (.frz, po f)) (v_e rfl) (len_po f)) (bi1 (x := (.frz, po g)) (v_e rfl) (len_po g)) (clt (dfa (by omega)))) rfl, ev_nil])]
    exact added_loop h k s hf hg (by omega) .e .e
end
end K10
set_option maxHeartbeats 1000000
/-! K10C: multiples, differences, products. -/
namespace K10
open PySem PySem.Spec PyProof.Rows L2 Tre PT Pol
section
variable {p : Nat} [NeZero p]
theorem cst_c' (a : Fin p) (f : S p) (n : Nat) : (cst a * f).c n = a * f.c n := by rw [cst_mul]
theorem neg1 (h : Pr p) : fi p ((p : Int) - 1) = -1 := by
  rw [fi_sub, fi_one]
  have : fi p (p : Int) = 0 := by
    have e : fi p (p : Int) = fi p 0 := fi_eq.mpr (by simp)
    rw [e, fi_zero]
  rw [this]
  grind
theorem cst_neg1 (f : S p) : cst (-1) * f = -f := by
  refine Ser.ext (funext fun n => ?_)
  rw [cst_c', neg_c]
  grind
theorem cst_one (f : S p) : cst 1 * f = f := by
  refine Ser.ext (funext fun n => ?_)
  rw [cst_c']
  grind
theorem le_cst {f : S p} {n : Nat} (a : Fin p) (h : Le f n) : Le (cst a * f) n := fun i hi => by
  rw [cst_c', h i hi]
  grind
theorem fs_cst {f : S p} (a : Fin p) (h : Fs f) : Fs (cst a * f) := (Fs.cst a).mul h
theorem cf_small (h : Pr p) (f : S p) (i : Nat) : -1000000 < cf f i ∧ cf f i < 1000000 := by
  have := cf_b f i
  have := h.le
  omega
theorem scaled_ok (h : Pr p) (k : Nat) (s : Src) (c : Int) {f : S p} (hf : Fs f) (hl : ln f ≤ 10000) : Ph (k + 2) 6 [.d (.int (p : Int)), .d (.int c), .d (po f)] s = .ok (false, po (cst (fi p c) * f)) s := by
  show endF (evS (Ph (k + 1)) G b_scaled [.d false (.int (p : Int)), .d false (.int c), .d false (po f), .e] s) = _
  unfold b_scaled
  have h2 := h.two
  have lc := lc_dt (Φ := Ph (k + 1)) (Gg := G) (tg := .v 3) (it := .it (.v 2)) (elt := .op .Mod (.op .Mult (.v 1) (.v 3)) (.v 0)) (ws := [3]) (env := [.d false (.int (p : Int)), .d false (.int c), .d false (po f), .e]) (s := s) (s1 := s) (n := ln f) (xs := dt (ln f) (cf f)) (ψ := fun i => c * cf f i % (p : Int)) (itF_e (v_e rfl) (.inl rfl) frzN) (dt_len _ _) (by rw [sizeL]; omega) (fun i x hx => by
    have hi : i < ln f := by
      have := (List.getElem?_eq_some_iff.mp hx).1
      rw [dt_len] at this
      exact this
    rw [dt_get hi] at hx
    cases hx
    exact ⟨[.d false (.int (p : Int)), .d false (.int c), .d false (po f), .d false (.int (cf f i))], rfl, op_e (op_e (v_e rfl) (v_e rfl) (om (.inr (cf_small h f i)))) (v_e rfl) (omod (by omega))⟩)
  have tr := trimmed_po (p := p) k s (row := .list (dt (ln f) fun i => c * cf f i % (p : Int))) (N := ln f) (h := cst (fi p c) * f) (.inl rfl) (le_cst _ (ln_le hf)) (fun i hi => cf_fi (by rw [fi_mul, fi_cf, cst_c']))
  exact congrArg endF (seq_ret (o := false) (ret_e (k := .frz) (call1 (x := (.own, _)) (o := false) lc ownN tr)))
theorem less_ok (h : Pr p) (k : Nat) (s : Src) {f g : S p} (hf : Fs f) (hg : Fs g) (hl : ln g ≤ 10000) : Ph (k + 3) 7 [.d (.int (p : Int)), .d (po f), .d (po g)] s = .ok (false, po (f - g)) s := by
  show endF (evS (Ph (k + 2)) G b_less [.d false (.int (p : Int)), .d false (po f), .d false (po g)] s) = _
  unfold b_less
  have e1 := scaled_ok h k s ((p : Int) - 1) hg hl
  have e2 := added_ok h k s hf (fs_cst (fi p ((p : Int) - 1)) hg)
  have e3 : f + cst (fi p ((p : Int) - 1)) * g = f - g := by rw [neg1 h, cst_neg1]; grind
  rw [e3] at e2
  exact congrArg endF (seq_ret (o := false) (ret_e (k := .frz) (call3 (x := (.frz, .int (p : Int))) (y := (.frz, po f)) (z := (.frz, _)) (o := false) (v_e rfl) frzN (v_e rfl) frzN (call3 (x := (.frz, .int (p : Int))) (y := (.frz, .int ((p : Int) - 1))) (z := (.frz, po g)) (o := false) (v_e rfl) frzN (op_e (v_e rfl) ev_c (os _ _)) frzN (v_e rfl) frzN e1) frzN e2)))
/-! ### products -/
theorem fi_part (f g : S p) (n : Nat) : ∀ I, fi p (PT.part (cf f) (cf g) I n) = PT.part f.c g.c I n
  | 0 => fi_zero
  | I + 1 => by
    rw [PT.part, PT.part, fi_add, fi_part f g n I]
    by_cases q : I ≤ n
    · rw [if_pos q, if_pos q, fi_mul, fi_cf, fi_cf]
    · rw [if_neg q, if_neg q, fi_zero]
theorem part_cf {f g : S p} (hf : Fs f) (n : Nat) : PT.part (cf f) (cf g) (ln f) n % (p : Int) = cf (f * g) n := by
  refine cf_fi ?_
  rw [fi_part, part_all f.c g.c (fun i hi => ln_le hf i hi)]
  rfl
/-- within a row -/
def pin (f g : S p) (I J n : Nat) : Int := PT.part (cf f) (cf g) I n + (if I ≤ n ∧ n - I < J then cf f I * cf g (n - I) else 0)
theorem pin_zero (f g : S p) (I n : Nat) : pin f g I 0 n = PT.part (cf f) (cf g) I n := by
  unfold pin
  rw [if_neg (by omega)]
  omega
theorem pin_end {f g : S p} (hg : Fs g) (I n : Nat) : pin f g I (ln g) n = PT.part (cf f) (cf g) (I + 1) n := by
  unfold pin
  rw [PT.part]
  by_cases q : I ≤ n
  · rw [if_pos q]
    by_cases q2 : n - I < ln g
    · rw [if_pos ⟨q, q2⟩]
    · rw [if_neg (by omega), cf_out hg (by omega)]
      omega
  · rw [if_neg (by omega), if_neg q]
theorem pin_step (f g : S p) (I J n : Nat) : pin f g I (J + 1) n = if n = I + J then pin f g I J (I + J) + cf f I * cf g J else pin f g I J n := by
  unfold pin
  by_cases q : n = I + J
  · subst q
    rw [if_pos rfl, if_pos (by omega), if_neg (by omega), show I + J - I = J by omega]
    omega
  · rw [if_neg q]
    by_cases q2 : I ≤ n ∧ n - I < J
    · rw [if_pos q2, if_pos (by omega)]
    · rw [if_neg q2, if_neg (by omega)]
theorem part_skip {f g : S p} {I : Nat} (hz : cf f I = 0) (n : Nat) : PT.part (cf f) (cf g) (I + 1) n = PT.part (cf f) (cf g) I n := by
  rw [PT.part, hz]
  split <;> omega
def tmE (p : Nat) (fv gv : D) (l : List D) (a b c d : Tre.Slot) : Tre.Env := [.d false (.int (p : Int)), .d false fv, .d false gv, .d true (.list l), a, b, c, d]
theorem times_ok (h : Pr p) (k : Nat) (s : Src) {f g : S p} (hf : Fs f) (hg : Fs g) (hl : ln f ≤ 10000) (hl' : ln g ≤ 10000) : Ph (k + 2) 8 [.d (.int (p : Int)), .d (po f), .d (po g)] s = .ok (false, po (f * g)) s := by
  show endF (evS (Ph (k + 1)) G b_times [.d false (.int (p : Int)), .d false (po f), .d false (po g), .e, .e, .e, .e, .e] s) = _
  unfold b_times
  have h2 := h.two
  obtain ⟨b1, e1, i1⟩ := eqF_po0 hf
  obtain ⟨b2, e2, i2⟩ := eqF_po0 hg
  by_cases hz : f = 0 ∨ g = 0
  · have hfg : f * g = 0 := by rcases hz with rfl | rfl <;> grind
    rw [hfg, po_zero]
    refine congrArg endF (seq_ret (o := false) ?_)
    have hc : evE (Ph (k + 1)) G (.or (.cmp .Eq (.v 1) (.tup .nil)) (.cmp .Eq (.v 2) (.tup .nil))) [.d false (.int (p : Int)), .d false (po f), .d false (po g), .e, .e, .e, .e, .e] s = .ok (.frz, .bool true) s := by
      by_cases z : f = 0
      · rw [i1.mpr z] at e1
        exact or_t (x := (.frz, .bool true)) (cmp_e (v_e rfl) tup0_e (ceq e1)) rfl
      · have : b1 = false := by cases b1 with
          | false => rfl
          | true => exact absurd (i1.mp rfl) z
        rw [this] at e1
        rw [i2.mpr (hz.resolve_left z)] at e2
        rw [or_f (x := (.frz, .bool false)) (cmp_e (v_e rfl) tup0_e (ceq e1)) rfl]
        exact cmp_e (v_e rfl) tup0_e (ceq e2)
    rw [ifs_t hc rfl]
    exact seq_ret (o := false) (ret_e (k := .frz) tup0_e)
  · have zf : f ≠ 0 := fun z => hz (.inl z)
    have zg : g ≠ 0 := fun z => hz (.inr z)
    have q1 : b1 = false := by cases b1 with
      | false => rfl
      | true => exact absurd (i1.mp rfl) zf
    have q2 : b2 = false := by cases b2 with
      | false => rfl
      | true => exact absurd (i2.mp rfl) zg
    rw [q1] at e1
    rw [q2] at e2
    have l1 := (ln_last hf zf).2
    have l2 := (ln_last hg zg).2
    rw [seq_next (env' := [.d false (.int (p : Int)), .d false (po f), .d false (po g), .e, .e, .e, .e, .e]) (s' := s) (by
      rw [ifs_f (x := (.frz, .bool false)) (s' := s) ?_ rfl, ev_nil]
      rw [or_f (x := (.frz, .bool false)) (cmp_e (v_e rfl) tup0_e (ceq e1)) rfl]
      exact cmp_e (v_e rfl) tup0_e (ceq e2))]
    obtain ⟨N, hN⟩ : ∃ N, N = ln f + ln g - 1 := ⟨_, rfl⟩
    have hN1 : ((ln f : Nat) : Int) + (ln g : Nat) - 1 = (N : Nat) := by omega
    have er : opF .Mult (.list [.int 0]) (.int (((ln f : Nat) : Int) + (ln g : Nat) - 1)) = some (.own, .list (dt N fun _ => 0)) := rep0L hN1 (by omega)
    rw [seq_next (env' := tmE p (po f) (po g) (dt N fun _ => 0) .e .e .e .e) (s' := s) (asg_e (op_e (lst_e (ea_cons ev_c ea_nil) rfl (by rw [sizeL]; show 1 ≤ _; omega)) (op_e (op_e (bi1 (x := (.frz, po f)) (v_e rfl) (len_po f)) (bi1 (x := (.frz, po g)) (v_e rfl) (len_po g)) (oa _ _)) ev_c (os _ _)) er) rfl)]
    obtain ⟨env', e3, a, b, c, d, rfl⟩ := for_ind (Φ := Ph (k + 1)) (Gg := G) (tg := .tup (.cons (.v 4) (.cons (.v 5) .nil))) (it := .enu (.v 1)) (b := .seq (.ifs (.cmp .NotEq (.v 5) (.c (.int 0))) (.seq (.for (.tup (.cons (.v 6) (.cons (.v 7) .nil))) (.enu (.v 2)) (.seq (.augx 3 (.op .Add (.v 4) (.v 6)) .Add (.op .Mult (.v 5) (.v 7))) .nil)) .nil) .nil) .nil)
      (env := tmE p (po f) (po g) (dt N fun _ => 0) .e .e .e .e) (s := s) (s1 := s) (xs := enuD 0 (dt (ln f) (cf f)))
      (fun i env => ∃ a b c d, env = tmE p (po f) (po g) (dt N fun n => PT.part (cf f) (cf g) i n) a b c d)
      (enu_e (v_e rfl) (.inl rfl) frzN) ⟨.e, .e, .e, .e, rfl⟩ (fun i x env hx ⟨a, b, c, d, hE⟩ => by
        have hi : i < ln f := by
          have := (List.getElem?_eq_some_iff.mp hx).1
          rw [enu_len, dt_len] at this
          exact this
        rw [dt_enu hi] at hx
        cases hx
        subst hE
        refine ⟨tmE p (po f) (po g) (dt N fun n => PT.part (cf f) (cf g) i n) (.d false (.int (i : Nat))) (.d false (.int (cf f i))) c d, ?_⟩
        by_cases hz : cf f i = 0
        · refine ⟨_, rfl, ?_, .d false (.int (i : Nat)), .d false (.int (cf f i)), c, d, congrArg (fun l => tmE p (po f) (po g) l _ _ _ _) (dt_congr fun n _ => (part_skip hz n).symm)⟩
          refine one_e ?_
          rw [ifs_f (x := (.frz, .bool false)) (s' := s) (cmp_e (v_e rfl) ev_c (cnei (by rw [dtr hz] <;> rfl))) rfl, ev_nil]
        · obtain ⟨env', e4, c', d', rfl⟩ := for_ind (Φ := Ph (k + 1)) (Gg := G) (tg := .tup (.cons (.v 6) (.cons (.v 7) .nil))) (it := .enu (.v 2)) (b := .seq (.augx 3 (.op .Add (.v 4) (.v 6)) .Add (.op .Mult (.v 5) (.v 7))) .nil)
            (env := tmE p (po f) (po g) (dt N fun n => PT.part (cf f) (cf g) i n) (.d false (.int (i : Nat))) (.d false (.int (cf f i))) c d) (s := s) (s1 := s) (xs := enuD 0 (dt (ln g) (cf g)))
            (fun j env => ∃ c d, env = tmE p (po f) (po g) (dt N fun n => pin f g i j n) (.d false (.int (i : Nat))) (.d false (.int (cf f i))) c d)
            (enu_e (v_e rfl) (.inl rfl) frzN) ⟨c, d, congrArg (fun l => tmE p (po f) (po g) l _ _ _ _) (dt_congr fun n _ => (pin_zero f g i n).symm)⟩ (fun j x env hx ⟨c, d, hE⟩ => by
              have hj : j < ln g := by
                have := (List.getElem?_eq_some_iff.mp hx).1
                rw [enu_len, dt_len] at this
                exact this
              rw [dt_enu hj] at hx
              cases hx
              subst hE
              refine ⟨tmE p (po f) (po g) (dt N fun n => pin f g i j n) (.d false (.int (i : Nat))) (.d false (.int (cf f i))) (.d false (.int (j : Nat))) (.d false (.int (cf g j))), _, rfl, one_e (augx_e (j := i + j) (n := N) (w := pin f g i j (i + j) + cf f i * cf g j) rfl (op_e (v_e rfl) (v_e rfl) (oa _ _)) (by omega) (op_e (v_e rfl) (v_e rfl) (om (.inl (cf_small h f i)))) rfl), .d false (.int (j : Nat)), .d false (.int (cf g j)), ?_⟩
              exact congrArg (fun l => tmE p (po f) (po g) l _ _ _ _) (dt_congr fun n _ => (pin_step f g i j n).symm))
          rw [enu_len, dt_len] at e4
          refine ⟨_, rfl, ?_, .d false (.int (i : Nat)), .d false (.int (cf f i)), c', d', congrArg (fun l => tmE p (po f) (po g) l _ _ _ _) (dt_congr fun n _ => pin_end (f := f) hg i n)⟩
          refine one_e ?_
          rw [ifs_t (x := (.frz, .bool true)) (s' := s) (cmp_e (v_e rfl) ev_c (cnei (by rw [dfa hz] <;> rfl))) rfl]
          exact one_e e4)
    rw [seq_next e3, enu_len, dt_len]
    have lc := lc_dt (Φ := Ph (k + 1)) (Gg := G) (tg := .v 5) (it := .it (.v 3)) (elt := .op .Mod (.v 5) (.v 0)) (ws := [5]) (env := tmE p (po f) (po g) (dt N fun n => PT.part (cf f) (cf g) (ln f) n) a b c d) (s := s) (s1 := s) (n := N) (xs := dt N fun n => PT.part (cf f) (cf g) (ln f) n) (ψ := fun n => PT.part (cf f) (cf g) (ln f) n % (p : Int)) (it_e (vo_e rfl) (.inr rfl)) (dt_len _ _) (by rw [sizeL]; omega) (fun i x hx => by
      have hi : i < N := by
        have := (List.getElem?_eq_some_iff.mp hx).1
        rw [dt_len] at this
        exact this
      rw [dt_get hi] at hx
      cases hx
      exact ⟨[.d false (.int (p : Int)), .d false (po f), .d false (po g), .d true (.list (dt N fun n => PT.part (cf f) (cf g) (ln f) n)), a, .d false (.int (PT.part (cf f) (cf g) (ln f) i)), c, d], rfl, op_e (v_e rfl) (v_e rfl) (omod (by omega))⟩)
    have tr := trimmed_po (p := p) k s (row := .list (dt N fun n => PT.part (cf f) (cf g) (ln f) n % (p : Int))) (N := N) (h := f * g) (.inl rfl) (by
      have := Le.mul (a := ln f - 1) (b := ln g - 1) ((ln_le hf).mono (by omega)) ((ln_le hg).mono (by omega))
      exact this.mono (by omega)) (fun i hi => part_cf hf i)
    exact congrArg endF (seq_ret (o := false) (ret_e (k := .frz) (call1 (x := (.own, _)) (o := false) lc ownN tr)))
end
end K10
set_option maxHeartbeats 1000000
/-! K10D: the law's own sums and products. -/
namespace K10
open PySem PySem.Spec PyProof.Rows L2 Tre PT Pol
section
variable {p : Nat} [NeZero p]
theorem dt_ltlen {n i : Nat} {φ : Nat → Int} {x : D} (h : (dt n φ)[i]? = some x) : i < n := by
  have := (List.getElem?_eq_some_iff.mp h).1
  rw [dt_len] at this
  exact this
theorem dt_ltenu {n i : Nat} {φ : Nat → Int} {x : D} (h : (enuD 0 (dt n φ))[i]? = some x) : i < n := by
  have := (List.getElem?_eq_some_iff.mp h).1
  rw [enu_len, dt_len] at this
  exact this
theorem max_e (n m : Nat) : biF .max [.int (n : Nat), .int (m : Nat)] = some (.frz, .int (max n m : Nat)) := by
  show some (Kd.frz, PyData.int (if (m : Int) > (n : Int) then (m : Int) else (n : Int))) = _
  rcases Nat.lt_or_ge n m with h | h
  · rw [if_pos (by omega), Nat.max_eq_right (by omega)]
  · rw [if_neg (by omega), Nat.max_eq_left h]
/-- noughts put behind -/
theorem pad_e {f : S p} (hf : Fs f) {M : Nat} (h : ln f ≤ M) (hM : M ≤ 1000) : opF .Add (po f) (.tuple (dt (M - ln f) fun _ => 0)) = some (.frz, .tuple (dt M (cf f))) := by
  unfold po
  rw [catT (by omega), show ln f + (M - ln f) = M by omega]
  refine congrArg (fun l => some (Kd.frz, PyData.tuple l)) (dt_congr fun i hi => ?_)
  by_cases q : i < ln f
  · rw [if_pos q]
  · rw [if_neg q, cf_out hf (by omega)]
theorem ladd_ok (h : Pr p) (k : Nat) (s : Src) (c : Int) {f g : S p} (hf : Fs f) (hg : Fs g) (hl : ln f ≤ 1000) (hl' : ln g ≤ 1000) : Ph (k + 2) 33 [.d (.int (p : Int)), .d (po f), .d (.int c), .d (po g)] s = .ok (false, po (f + cst (fi p c) * g)) s := by
  show endF (evS (Ph (k + 1)) G b__law_add [.d false (.int (p : Int)), .d false (po f), .d false (.int c), .d false (po g), .e, .e, .e, .e, .e] s) = _
  unfold b__law_add
  have h2 := h.two
  obtain ⟨M, hM⟩ : ∃ M, M = max (ln f) (ln g) := ⟨_, rfl⟩
  have m1 : ln f ≤ M := by omega
  have m2 : ln g ≤ M := by omega
  have m3 : M ≤ 1000 := by omega
  have mx := max_e (ln f) (ln g)
  rw [← hM] at mx
  rw [seq_next (env' := [.d false (.int (p : Int)), .d false (po f), .d false (.int c), .d false (po g), .d false (.int (M : Nat)), .e, .e, .e, .e]) (s' := s) (asg_e (bi2 (bi1 (x := (.frz, po f)) (v_e rfl) (len_po f)) (bi1 (x := (.frz, po g)) (v_e rfl) (len_po g)) mx) rfl)]
  have o1 : evE (Ph (k + 1)) G (.op .Add (.v 1) (.op .Mult (.tup (.cons (.c (.int 0)) .nil)) (.op .Sub (.v 4) (.bi .len (.cons (.v 1) .nil))))) [.d false (.int (p : Int)), .d false (po f), .d false (.int c), .d false (po g), .d false (.int (M : Nat)), .e, .e, .e, .e] s = .ok (.frz, .tuple (dt M (cf f))) s :=
    op_e (v_e rfl) (op_e (tup_e (ea_cons ev_c ea_nil) rfl (by rw [sizeL]; show 1 ≤ _; omega)) (op_e (v_e rfl) (bi1 (x := (.frz, po f)) (v_e rfl) (len_po f)) (os _ _)) (rep0T (n := M - ln f) (by omega) (by omega))) (pad_e hf m1 m3)
  have o2 : evE (Ph (k + 1)) G (.op .Add (.v 3) (.op .Mult (.tup (.cons (.c (.int 0)) .nil)) (.op .Sub (.v 4) (.bi .len (.cons (.v 3) .nil))))) [.d false (.int (p : Int)), .d false (po f), .d false (.int c), .d false (po g), .d false (.int (M : Nat)), .e, .e, .e, .e] s = .ok (.frz, .tuple (dt M (cf g))) s :=
    op_e (v_e rfl) (op_e (tup_e (ea_cons ev_c ea_nil) rfl (by rw [sizeL]; show 1 ≤ _; omega)) (op_e (v_e rfl) (bi1 (x := (.frz, po g)) (v_e rfl) (len_po g)) (os _ _)) (rep0T (n := M - ln g) (by omega) (by omega))) (pad_e hg m2 m3)
  rw [seq_next (env' := [.d false (.int (p : Int)), .d false (po f), .d false (.int c), .d false (po g), .d false (.int (M : Nat)), .d false (.tuple (dt M (cf f))), .d false (.tuple (dt M (cf g))), .e, .e]) (s' := s) (par_e (ea_cons o1 (ea_cons o2 ea_nil)) rfl)]
  rw [fz_e (env' := [.d false (.int (p : Int)), .d false (po f), .d false (.int c), .d false (po g), .d false (.int (M : Nat)), .d false (.tuple (dt M (cf f))), .d false (.tuple (dt M (cf g))), .e, .e]) rfl]
  have lc := lc_dt (Φ := Ph (k + 1)) (Gg := G) (tg := .tup (.cons (.v 7) (.cons (.v 8) .nil))) (it := .zip false (.v 5) (.v 6)) (elt := .op .Mod (.bi .int (.cons (.op .Add (.v 7) (.op .Mult (.v 2) (.v 8))) .nil)) (.v 0)) (ws := [7, 8]) (env := [.d false (.int (p : Int)), .d false (po f), .d false (.int c), .d false (po g), .d false (.int (M : Nat)), .d false (.tuple (dt M (cf f))), .d false (.tuple (dt M (cf g))), .e, .e]) (s := s) (s1 := s) (n := M) (xs := zipD (dt M (cf f)) (dt M (cf g))) (ψ := fun i => (cf f i + c * cf g i) % (p : Int))
    (zipT_e (v_e rfl) (v_e rfl) frzN frzN) (by rw [zipD_len, dt_len, dt_len]; exact Nat.min_self M) (by rw [sizeL]; omega) (fun i x hx => by
      have hi : i < M := by
        have := (List.getElem?_eq_some_iff.mp hx).1
        rw [zipD_len, dt_len, dt_len] at this
        exact Nat.lt_of_lt_of_le this (Nat.min_le_left _ _)
      rw [zipD_get _ _ i _ _ (dt_get hi) (dt_get hi)] at hx
      cases hx
      exact ⟨[.d false (.int (p : Int)), .d false (po f), .d false (.int c), .d false (po g), .d false (.int (M : Nat)), .d false (.tuple (dt M (cf f))), .d false (.tuple (dt M (cf g))), .d false (.int (cf f i)), .d false (.int (cf g i))], rfl, op_e (bi1 (op_e (v_e rfl) (op_e (v_e rfl) (v_e rfl) (om (.inr (cf_small h g i)))) (oa _ _)) rfl) (v_e rfl) (omod (by omega))⟩)
  have tr := ltrim_po (p := p) k s (row := .list (dt M fun i => (cf f i + c * cf g i) % (p : Int))) (N := M) (h := f + cst (fi p c) * g) (.inl rfl) (((ln_le hf).mono m1).add ((le_cst _ (ln_le hg)).mono m2)) (fun i hi => cf_fi (by rw [fi_add, fi_mul, fi_cf, fi_cf, add_c, cst_c']))
  exact congrArg endF (seq_ret (o := false) (ret_e (k := .frz) (call1 (x := (.own, _)) (o := false) lc ownN tr)))
theorem mul_len {f g : S p} (hf : Fs f) (hg : Fs g) : Le (f * g) (ln f + ln g) := by
  by_cases zf : f = 0
  · subst zf
    intro i _
    have : (0 : S p) * g = 0 := by grind
    rw [this, zero_c]
  by_cases zg : g = 0
  · subst zg
    intro i _
    have : f * (0 : S p) = 0 := by grind
    rw [this, zero_c]
  have l1 := (ln_last hf zf).2
  have l2 := (ln_last hg zg).2
  have := Le.mul (a := ln f - 1) (b := ln g - 1) ((ln_le hf).mono (by omega)) ((ln_le hg).mono (by omega))
  exact this.mono (by omega)
theorem lmul_ok (h : Pr p) (k : Nat) (s : Src) {f g : S p} (hf : Fs f) (hg : Fs g) (hl : ln f ≤ 10000) (hl' : ln g ≤ 10000) : Ph (k + 2) 34 [.d (.int (p : Int)), .d (po f), .d (po g)] s = .ok (false, po (f * g)) s := by
  show endF (evS (Ph (k + 1)) G b__law_mul [.d false (.int (p : Int)), .d false (po f), .d false (po g), .e, .e, .e, .e, .e] s) = _
  unfold b__law_mul
  have h2 := h.two
  obtain ⟨N, hN⟩ : ∃ N, N = ln f + ln g := ⟨_, rfl⟩
  rw [seq_next (env' := tmE p (po f) (po g) (dt N fun _ => 0) .e .e .e .e) (s' := s) (asg_e (op_e (lst_e (ea_cons ev_c ea_nil) rfl (by rw [sizeL]; show 1 ≤ _; omega)) (op_e (bi1 (x := (.frz, po f)) (v_e rfl) (len_po f)) (bi1 (x := (.frz, po g)) (v_e rfl) (len_po g)) (oa _ _)) (rep0L (n := N) (by omega) (by omega))) rfl)]
  obtain ⟨env', e3, a, b, c, d, rfl⟩ := for_ind (Φ := Ph (k + 1)) (Gg := G) (tg := .tup (.cons (.v 4) (.cons (.v 5) .nil))) (it := .enu (.v 1)) (b := .seq (.for (.tup (.cons (.v 6) (.cons (.v 7) .nil))) (.enu (.v 2)) (.seq (.setx 3 (.op .Add (.v 4) (.v 6)) (.op .Mod (.bi .int (.cons (.op .Add (.sub (.v 3) (.op .Add (.v 4) (.v 6))) (.op .Mult (.v 5) (.v 7))) .nil)) (.v 0))) .nil)) .nil)
    (env := tmE p (po f) (po g) (dt N fun _ => 0) .e .e .e .e) (s := s) (s1 := s) (xs := enuD 0 (dt (ln f) (cf f)))
    (fun i env => ∃ a b c d, env = tmE p (po f) (po g) (dt N fun n => PT.part (cf f) (cf g) i n % (p : Int)) a b c d)
    (enu_e (v_e rfl) (.inl rfl) frzN) ⟨.e, .e, .e, .e, congrArg (fun l => tmE p (po f) (po g) l _ _ _ _) (dt_congr fun n _ => by show (0 : Int) = 0 % (p : Int); simp)⟩ (fun i x env hx ⟨a, b, c, d, hE⟩ => by
      have hi := dt_ltenu hx
      rw [dt_enu hi] at hx
      cases hx
      subst hE
      refine ⟨tmE p (po f) (po g) (dt N fun n => PT.part (cf f) (cf g) i n % (p : Int)) (.d false (.int (i : Nat))) (.d false (.int (cf f i))) c d, ?_⟩
      obtain ⟨env', e4, c', d', rfl⟩ := for_ind (Φ := Ph (k + 1)) (Gg := G) (tg := .tup (.cons (.v 6) (.cons (.v 7) .nil))) (it := .enu (.v 2)) (b := .seq (.setx 3 (.op .Add (.v 4) (.v 6)) (.op .Mod (.bi .int (.cons (.op .Add (.sub (.v 3) (.op .Add (.v 4) (.v 6))) (.op .Mult (.v 5) (.v 7))) .nil)) (.v 0))) .nil)
        (env := tmE p (po f) (po g) (dt N fun n => PT.part (cf f) (cf g) i n % (p : Int)) (.d false (.int (i : Nat))) (.d false (.int (cf f i))) c d) (s := s) (s1 := s) (xs := enuD 0 (dt (ln g) (cf g)))
        (fun j env => ∃ c d, env = tmE p (po f) (po g) (dt N fun n => pin f g i j n % (p : Int)) (.d false (.int (i : Nat))) (.d false (.int (cf f i))) c d)
        (enu_e (v_e rfl) (.inl rfl) frzN) ⟨c, d, congrArg (fun l => tmE p (po f) (po g) l _ _ _ _) (dt_congr fun n _ => by rw [pin_zero f g i n])⟩ (fun j x env hx ⟨c, d, hE⟩ => by
          have hj := dt_ltenu hx
          rw [dt_enu hj] at hx
          cases hx
          subst hE
          have hij : i + j < N := by omega
          have e0 : subF (.list (dt N fun n => pin f g i j n % (p : Int))) (.int ((i : Nat) + (j : Nat) : Int)) = some (.int (pin f g i j (i + j) % (p : Int))) := dt_sub (φ := fun n => pin f g i j n % (p : Int)) hij
          refine ⟨tmE p (po f) (po g) (dt N fun n => pin f g i j n % (p : Int)) (.d false (.int (i : Nat))) (.d false (.int (cf f i))) (.d false (.int (j : Nat))) (.d false (.int (cf g j))), _, rfl, one_e (setx_e (k := .frz) (j := i + j) (n := N) (v := (pin f g i j (i + j) % (p : Int) + cf f i * cf g j) % (p : Int)) rfl
            (op_e (bi1 (op_e (sub_e (x := (.peek, _)) (vo_e rfl) (op_e (v_e rfl) (v_e rfl) (oa _ _)) e0) (op_e (v_e rfl) (v_e rfl) (om (.inl (cf_small h f i)))) (oa _ _)) rfl) (v_e rfl) (omod (by omega))) frzN (op_e (v_e rfl) (v_e rfl) (oa _ _)) hij), .d false (.int (j : Nat)), .d false (.int (cf g j)), ?_⟩
          refine congrArg (fun l => tmE p (po f) (po g) l _ _ _ _) (dt_congr fun n _ => ?_)
          rw [pin_step]
          by_cases q : n = i + j
          · rw [if_pos q, if_pos q, Int.emod_add_emod]
          · rw [if_neg q, if_neg q])
      rw [enu_len, dt_len] at e4
      exact ⟨_, rfl, one_e e4, .d false (.int (i : Nat)), .d false (.int (cf f i)), c', d', congrArg (fun l => tmE p (po f) (po g) l _ _ _ _) (dt_congr fun n _ => by rw [pin_end (f := f) hg i n])⟩)
  rw [seq_next e3, enu_len, dt_len]
  have tr := ltrim_po (p := p) k s (row := .list (dt N fun n => PT.part (cf f) (cf g) (ln f) n % (p : Int))) (N := N) (h := f * g) (.inl rfl) (by rw [hN]; exact mul_len hf hg) (fun i hi => part_cf hf i)
  rw [fz_e (env' := [.d false (.int (p : Int)), .d false (po f), .d false (po g), .d false (.list (dt N fun n => PT.part (cf f) (cf g) (ln f) n % (p : Int))), a, b, c, d]) rfl]
  exact congrArg endF (seq_ret (o := false) (ret_e (k := .frz) (call1 (x := (.frz, _)) (o := false) (v_e rfl) frzN tr)))
end
end K10
set_option maxHeartbeats 1000000
/-! K10E: quotients and rests. -/
namespace K10
open PySem PySem.Spec PyProof.Rows L2 Tre PT Pol
section
variable {p : Nat} [NeZero p]
/-- one lap of a division -/
structure Lap (f g q r : S p) (k : Nat) : Prop where
  e : f = q * g + r
  le : Le r (k + ln g - 1)
theorem lap_next (h : Pr p) {f g q r : S p} {k : Nat} (hg : Fs g) (hz : g ≠ 0) (l : Lap f g q r (k + 1)) (a : Fin p) (ha : a = r.c (k + ln g - 1) * inv (g.c (ln g - 1))) :
    Lap f g (q + cst a * zp k) (r - cst a * (zp k * g)) k := by
  obtain ⟨l1, l2⟩ := ln_last hg hz
  refine ⟨by rw [l.e]; grind, fun i hi => ?_⟩
  rw [sub_c, cst_c', zp_c, if_neg (by omega)]
  by_cases e : i = k + ln g - 1
  · have hi2 := inv_ok h l1
    rw [e, show k + ln g - 1 - k = ln g - 1 by omega, ha]
    grind
  · rw [l.le i (by omega), ln_le hg (i - k) (by omega)]
    grind
theorem cst_zero (f : S p) : cst 0 * f = 0 := by
  refine Ser.ext (funext fun n => ?_)
  rw [cst_c', zero_c]
  grind
theorem num_e (h : Pr p) (x y : Fin p) : ((x.val : Int) * (y.val : Int)) % (p : Int) = ((x * y).val : Int) := by
  have := fi_val (p := p) ((x.val : Int) * (y.val : Int))
  rw [fi_mul, fi_of, fi_of] at this
  exact this.symm
theorem val_small (h : Pr p) (x : Fin p) : -1000000 < (x.val : Int) ∧ (x.val : Int) < 1000000 := by
  have := x.isLt
  have := h.le
  omega
def paE (p : Nat) (fv gv : D) (u : Int) (k : Tre.Slot) (rest found : List D) (a b c : Tre.Slot) : Tre.Env := [.d false (.int (p : Int)), .d false fv, .d false gv, .d false (.int u), k, .d true (.list rest), .d true (.list found), a, b, c]
theorem sel_e {n m : Nat} (φ : Nat → Int) (a : Int) : dt n (fun i => if i = m then a else φ i) = (dt n φ).set m (.int a) := dt_set.symm
/-- found, with a number more -/
theorem found_e {q : S p} {a : Fin p} {Q k : Nat} (hq : q.c k = 0) : dt Q (fun m => if m = k then (a.val : Int) else cf q m) = dt Q (cf (q + cst a * zp k)) := by
  refine dt_congr fun i hi => ?_
  unfold cf
  rw [add_c, cst_c', zp_at]
  by_cases e : i = k
  · rw [if_pos e, if_pos e, e, hq]
    have : (0 : Fin p) + a * 1 = a := by grind
    rw [this]
  · rw [if_neg e, if_neg e]
    have : q.c i + a * 0 = q.c i := by grind
    rw [this]
/-- the rest, a row of numbers taken away -/
theorem rest_e (h : Pr p) {r g : S p} (hg : Fs g) {a : Fin p} {k i : Nat} : (if k ≤ i ∧ i - k < ln g then (cf r i - (a.val : Int) * cf g (i - k)) % (p : Int) else cf r i) = cf (r - cst a * (zp k * g)) i := by
  by_cases q : k ≤ i ∧ i - k < ln g
  · rw [if_pos q]
    refine cf_fi ?_
    rw [fi_sub, fi_mul, fi_cf, fi_cf, fi_of, sub_c, cst_c', zp_c, if_neg (by omega)]
  · rw [if_neg q]
    unfold cf
    rw [sub_c, cst_c', zp_c]
    have : r.c i - a * (if i < k then 0 else g.c (i - k)) = r.c i := by
      by_cases q2 : i < k
      · rw [if_pos q2]; grind
      · rw [if_neg q2, ln_le hg (i - k) (by omega)]; grind
    rw [this]
theorem parted_ok (h : Pr p) (k : Nat) (s : Src) {f g : S p} (hf : Fs f) (hg : Fs g) (hz : g ≠ 0) (hl : ln f ≤ 10000) (hl' : ln g ≤ 10000) :
    ∃ q r, f = q * g + r ∧ Fs q ∧ Le r (ln g - 1) ∧ Ph (k + 2) 12 [.d (.int (p : Int)), .d (po f), .d (po g)] s = .ok (false, .tuple [po q, po r]) s := by
  obtain ⟨l1, l2⟩ := ln_last hg hz
  have h2 := h.two
  obtain ⟨Q, hQ⟩ : ∃ Q, Q = ln f + 1 - ln g := ⟨_, rfl⟩
  have Φ0 : ∀ X, endF (evS (Ph (k + 1)) G b_parted [.d false (.int (p : Int)), .d false (po f), .d false (po g), .e, .e, .e, .e, .e, .e, .e] s) = X → Ph (k + 2) 12 [.d (.int (p : Int)), .d (po f), .d (po g)] s = X := fun X h => h
  have hmx : biF .max [.int 0, .int (((ln f : Nat) : Int) - (ln g : Nat) + 1)] = some (.frz, .int (Q : Nat)) := by
    show some (Kd.frz, PyData.int (if ((ln f : Nat) : Int) - (ln g : Nat) + 1 > 0 then ((ln f : Nat) : Int) - (ln g : Nat) + 1 else 0)) = _
    by_cases q : ((ln f : Nat) : Int) - (ln g : Nat) + 1 > 0
    · rw [if_pos q, show ((ln f : Nat) : Int) - (ln g : Nat) + 1 = (Q : Nat) by omega]
    · rw [if_neg q, show (0 : Int) = (Q : Nat) by omega]
  have st1 : ∀ r, evS (Ph (k + 1)) G b_parted [.d false (.int (p : Int)), .d false (po f), .d false (po g), .e, .e, .e, .e, .e, .e, .e] s = r ↔
      evS (Ph (k + 1)) G (.seq (.for (.v 4) (.rvr (.cons (.bi .len (.cons (.v 6) .nil)) .nil)) (.seq (.asg (.v 7) (.op .Mod (.op .Mult (.sub (.v 5) (.op .Sub (.op .Add (.v 4) (.bi .len (.cons (.v 2) .nil))) (.c (.int 1)))) (.v 3)) (.v 0))) (.seq (.setx 6 (.v 4) (.v 7)) (.seq (.ifs (.cmp .NotEq (.v 7) (.c (.int 0))) (.seq (.for (.tup (.cons (.v 8) (.cons (.v 9) .nil))) (.enu (.v 2)) (.seq (.setx 5 (.op .Add (.v 4) (.v 8)) (.op .Mod (.op .Sub (.sub (.v 5) (.op .Add (.v 4) (.v 8))) (.op .Mult (.v 7) (.v 9))) (.v 0))) .nil)) .nil) .nil) .nil)))) (.fz [5, 6] (.seq (.ret (.tup (.cons (.call 3 (.cons (.v 6) .nil)) (.cons (.call 3 (.cons (.v 5) .nil)) .nil)))) .nil)))
        (paE p (po f) (po g) ((inv (g.c (ln g - 1))).val : Int) .e (dt (ln f) (cf f)) (dt Q fun _ => 0) .e .e .e) s = r := fun r => by
    unfold b_parted
    rw [seq_next (env' := [.d false (.int (p : Int)), .d false (po f), .d false (po g), .e, .e, .d true (.list (dt (ln f) (cf f))), .d true (.list (dt Q fun _ => 0)), .e, .e, .e]) (s' := s) (par_e (ea_cons (x := (.own, .list (dt (ln f) (cf f)))) (bi1 (x := (.frz, po f)) (v_e rfl) rfl) (ea_cons (op_e (lst_e (ea_cons ev_c ea_nil) rfl (by rw [sizeL]; show 1 ≤ _; omega)) (bi2 ev_c (op_e (op_e (bi1 (x := (.frz, po f)) (v_e rfl) (len_po f)) (bi1 (x := (.frz, po g)) (v_e rfl) (len_po g)) (os _ _)) ev_c (oa _ _)) hmx) (rep0L (n := Q) rfl (by omega))) ea_nil)) rfl)]
    rw [seq_next (env' := paE p (po f) (po g) ((inv (g.c (ln g - 1))).val : Int) .e (dt (ln f) (cf f)) (dt Q fun _ => 0) .e .e .e) (s' := s) (asg_e (call2 (x := (.frz, .int (p : Int))) (y := (.frz, .int (cf g (ln g - 1)))) (o := false) (v_e rfl) frzN (sub_e (x := (.frz, po g)) (v_e rfl) (neg_e ev_c) (subL_po l2)) frzN (inverse_ok h k s l1)) rfl)]
  obtain ⟨env', e1, q, r, a, b, c, d, rfl, lap, leq, q0, ler⟩ := for_ind (Φ := Ph (k + 1)) (Gg := G) (tg := .v 4) (it := .rvr (.cons (.bi .len (.cons (.v 6) .nil)) .nil)) (b := .seq (.asg (.v 7) (.op .Mod (.op .Mult (.sub (.v 5) (.op .Sub (.op .Add (.v 4) (.bi .len (.cons (.v 2) .nil))) (.c (.int 1)))) (.v 3)) (.v 0))) (.seq (.setx 6 (.v 4) (.v 7)) (.seq (.ifs (.cmp .NotEq (.v 7) (.c (.int 0))) (.seq (.for (.tup (.cons (.v 8) (.cons (.v 9) .nil))) (.enu (.v 2)) (.seq (.setx 5 (.op .Add (.v 4) (.v 8)) (.op .Mod (.op .Sub (.sub (.v 5) (.op .Add (.v 4) (.v 8))) (.op .Mult (.v 7) (.v 9))) (.v 0))) .nil)) .nil) .nil) .nil)))
    (env := paE p (po f) (po g) ((inv (g.c (ln g - 1))).val : Int) .e (dt (ln f) (cf f)) (dt Q fun _ => 0) .e .e .e) (s := s) (s1 := s) (xs := rngCD ((((Q : Nat) : Int).toNat : Nat) - 1 : Int) (-1) ((Q : Nat) : Int).toNat)
    (fun t env => ∃ q r a b c d, env = paE p (po f) (po g) ((inv (g.c (ln g - 1))).val : Int) a (dt (ln f) (cf r)) (dt Q (cf q)) b c d ∧ Lap f g q r (Q - t) ∧ Le q Q ∧ (∀ i, i < Q - t → q.c i = 0) ∧ Le r (ln f))
    (rvr_e (bi1 (x := (.peek, .list (dt Q fun _ => 0))) (vo_e rfl) (by show some (Kd.frz, PyData.int ((dt Q fun _ => 0).length : Nat)) = _; rw [dt_len])) (by omega))
    ⟨0, f, .e, .e, .e, .e, congrArg (fun l => paE p (po f) (po g) ((inv (g.c (ln g - 1))).val : Int) .e (dt (ln f) (cf f)) l .e .e .e) (dt_congr fun i _ => (cf_zero.mpr (zero_c i)).symm), ⟨by grind, (ln_le hf).mono (by omega)⟩, fun i _ => zero_c i, fun i _ => zero_c i, ln_le hf⟩
    (fun t x env hx ⟨q, r, a, b, c, d, hE, lap, leq, q0, ler⟩ => by
      rw [rngC_dt] at hx
      have ht := dt_ltlen hx
      rw [Int.toNat_natCast] at ht
      rw [dt_get (by rw [Int.toNat_natCast]; exact ht)] at hx
      cases hx
      subst hE
      obtain ⟨m, hm⟩ : ∃ m, m = Q - 1 - t := ⟨_, rfl⟩
      have em : (((((Q : Nat) : Int).toNat : Nat) : Int) - 1) + (t : Nat) * (-1) = (m : Nat) := by rw [Int.toNat_natCast]; omega
      rw [em]
      have hmQ : m < Q := by omega
      have hi : m + ln g - 1 < ln f := by omega
      have e0 : subF (.list (dt (ln f) (cf r))) (.int ((m : Nat) + (ln g : Nat) - 1 : Int)) = some (.int (cf r (m + ln g - 1))) := by
        rw [show ((m : Nat) + (ln g : Nat) - 1 : Int) = ((m + ln g - 1 : Nat) : Int) by omega]
        exact dt_sub hi
      obtain ⟨A, hA⟩ : ∃ A, A = r.c (m + ln g - 1) * inv (g.c (ln g - 1)) := ⟨_, rfl⟩
      have lap' : Lap f g q r (m + 1) := by rw [show m + 1 = Q - t by omega]; exact lap
      have nx := lap_next h hg hz lap' A hA
      have eA : (cf r (m + ln g - 1) * ((inv (g.c (ln g - 1))).val : Int)) % (p : Int) = (A.val : Int) := by rw [hA]; exact num_e h _ _
      have q0' : q.c m = 0 := q0 m (by omega)
      have nler : Le (r - cst A * (zp m * g)) (ln f) := ler.sub (le_cst _ ((zp_le m (ln_le hg)).mono (by omega)))
      have nleq : Le (q + cst A * zp m) Q := leq.add (le_cst _ fun i hi => by rw [zp_at, if_neg (by omega)])
      have nq0 : ∀ i, i < Q - (t + 1) → (q + cst A * zp m).c i = 0 := fun i hi => by
        rw [add_c, cst_c', zp_at, if_neg (by omega), q0 i (by omega)]
        grind
      refine ⟨paE p (po f) (po g) ((inv (g.c (ln g - 1))).val : Int) (.d false (.int (m : Nat))) (dt (ln f) (cf r)) (dt Q (cf q)) b c d, ?_⟩
      have s1 : evS (Ph (k + 1)) G (.asg (.v 7) (.op .Mod (.op .Mult (.sub (.v 5) (.op .Sub (.op .Add (.v 4) (.bi .len (.cons (.v 2) .nil))) (.c (.int 1)))) (.v 3)) (.v 0))) (paE p (po f) (po g) ((inv (g.c (ln g - 1))).val : Int) (.d false (.int (m : Nat))) (dt (ln f) (cf r)) (dt Q (cf q)) b c d) s
          = .ok (.next (paE p (po f) (po g) ((inv (g.c (ln g - 1))).val : Int) (.d false (.int (m : Nat))) (dt (ln f) (cf r)) (dt Q (cf q)) (.d false (.int (A.val : Int))) c d)) s := by
        refine asg_e (op_e (op_e (sub_e (x := (.peek, .list (dt (ln f) (cf r)))) (vo_e rfl) (op_e (op_e (v_e rfl) (bi1 (x := (.frz, po g)) (v_e rfl) (len_po g)) (oa _ _)) ev_c (os _ _)) e0) (v_e rfl) (om (.inr (val_small h _)))) (v_e rfl) (omod (by omega))) ?_
        rw [eA]
        rfl
      have s2 : evS (Ph (k + 1)) G (.setx 6 (.v 4) (.v 7)) (paE p (po f) (po g) ((inv (g.c (ln g - 1))).val : Int) (.d false (.int (m : Nat))) (dt (ln f) (cf r)) (dt Q (cf q)) (.d false (.int (A.val : Int))) c d) s
          = .ok (.next (paE p (po f) (po g) ((inv (g.c (ln g - 1))).val : Int) (.d false (.int (m : Nat))) (dt (ln f) (cf r)) (dt Q (cf (q + cst A * zp m))) (.d false (.int (A.val : Int))) c d)) s := by
        rw [← found_e q0']
        exact setx_e (k := .frz) (j := m) (n := Q) (φ := cf q) rfl (v_e rfl) frzN (v_e rfl) hmQ
      by_cases hzA : A = 0
      · have er : r - cst A * (zp m * g) = r := by rw [hzA, cst_zero]; grind
        rw [er] at nx nler
        refine ⟨_, rfl, ?_, q + cst A * zp m, r, .d false (.int (m : Nat)), .d false (.int (A.val : Int)), c, d, rfl, by rw [show Q - (t + 1) = m by omega]; exact nx, nleq, nq0, nler⟩
        rw [seq_next s1, seq_next s2]
        refine one_e ?_
        rw [ifs_f (x := (.frz, .bool false)) (s' := s) (cmp_e (v_e rfl) ev_c (cnei (by rw [hzA]; rfl))) rfl, ev_nil]
      · obtain ⟨env', e4, c', d', rfl⟩ := for_ind (Φ := Ph (k + 1)) (Gg := G) (tg := .tup (.cons (.v 8) (.cons (.v 9) .nil))) (it := .enu (.v 2)) (b := .seq (.setx 5 (.op .Add (.v 4) (.v 8)) (.op .Mod (.op .Sub (.sub (.v 5) (.op .Add (.v 4) (.v 8))) (.op .Mult (.v 7) (.v 9))) (.v 0))) .nil)
          (env := paE p (po f) (po g) ((inv (g.c (ln g - 1))).val : Int) (.d false (.int (m : Nat))) (dt (ln f) (cf r)) (dt Q (cf (q + cst A * zp m))) (.d false (.int (A.val : Int))) c d) (s := s) (s1 := s) (xs := enuD 0 (dt (ln g) (cf g)))
          (fun j env => ∃ c d, env = paE p (po f) (po g) ((inv (g.c (ln g - 1))).val : Int) (.d false (.int (m : Nat))) (dt (ln f) fun i => if m ≤ i ∧ i - m < j then (cf r i - (A.val : Int) * cf g (i - m)) % (p : Int) else cf r i) (dt Q (cf (q + cst A * zp m))) (.d false (.int (A.val : Int))) c d)
          (enu_e (v_e rfl) (.inl rfl) frzN) ⟨c, d, congrArg (fun l => paE p (po f) (po g) ((inv (g.c (ln g - 1))).val : Int) _ l _ _ c d) (dt_congr fun i _ => by rw [if_neg (by omega)])⟩ (fun j x env hx ⟨c, d, hE⟩ => by
            have hj := dt_ltenu hx
            rw [dt_enu hj] at hx
            cases hx
            subst hE
            have hmj : m + j < ln f := by omega
            have e0 : subF (.list (dt (ln f) fun i => if m ≤ i ∧ i - m < j then (cf r i - (A.val : Int) * cf g (i - m)) % (p : Int) else cf r i)) (.int ((m : Nat) + (j : Nat) : Int)) = some (.int (cf r (m + j))) := by
              have := dt_sub (φ := fun i => if m ≤ i ∧ i - m < j then (cf r i - (A.val : Int) * cf g (i - m)) % (p : Int) else cf r i) hmj
              rw [if_neg (by omega)] at this
              exact this
            refine ⟨paE p (po f) (po g) ((inv (g.c (ln g - 1))).val : Int) (.d false (.int (m : Nat))) (dt (ln f) fun i => if m ≤ i ∧ i - m < j then (cf r i - (A.val : Int) * cf g (i - m)) % (p : Int) else cf r i) (dt Q (cf (q + cst A * zp m))) (.d false (.int (A.val : Int))) (.d false (.int (j : Nat))) (.d false (.int (cf g j))), _, rfl, one_e (setx_e (k := .frz) (j := m + j) (n := ln f) (v := (cf r (m + j) - (A.val : Int) * cf g j) % (p : Int)) rfl
              (op_e (op_e (sub_e (x := (.peek, _)) (vo_e rfl) (op_e (v_e rfl) (v_e rfl) (oa _ _)) e0) (op_e (v_e rfl) (v_e rfl) (om (.inl (val_small h A)))) (os _ _)) (v_e rfl) (omod (by omega))) frzN (op_e (v_e rfl) (v_e rfl) (oa _ _)) hmj), .d false (.int (j : Nat)), .d false (.int (cf g j)), ?_⟩
            refine congrArg (fun l => paE p (po f) (po g) ((inv (g.c (ln g - 1))).val : Int) _ l _ _ _ _) (dt_congr fun i _ => ?_)
            by_cases e : i = m + j
            · subst e
              rw [if_pos rfl, if_pos (by omega), show m + j - m = j by omega]
            · rw [if_neg e]
              by_cases e2 : m ≤ i ∧ i - m < j
              · rw [if_pos e2, if_pos (by omega)]
              · rw [if_neg e2, if_neg (by omega)])
        rw [enu_len, dt_len] at e4
        refine ⟨_, rfl, ?_, q + cst A * zp m, r - cst A * (zp m * g), .d false (.int (m : Nat)), .d false (.int (A.val : Int)), c', d', congrArg (fun l => paE p (po f) (po g) ((inv (g.c (ln g - 1))).val : Int) _ l _ _ c' d') (dt_congr fun i _ => rest_e h hg), by rw [show Q - (t + 1) = m by omega]; exact nx, nleq, nq0, nler⟩
        rw [seq_next s1, seq_next s2]
        refine one_e ?_
        rw [ifs_t (x := (.frz, .bool true)) (s' := s) (cmp_e (v_e rfl) ev_c (cnei (by
          have : (A.val : Int) ≠ 0 := fun z => hzA (Fin.ext (by show A.val = 0; omega))
          rw [dfa this] <;> rfl))) rfl]
        exact one_e e4)
  refine ⟨q, r, lap.e, ⟨Q, leq⟩, ?_, Φ0 _ ?_⟩
  · have := lap.le
    have e : (rngCD ((((Q : Nat) : Int).toNat : Nat) - 1 : Int) (-1) ((Q : Nat) : Int).toNat).length = Q := by rw [rngC_dt, dt_len, Int.toNat_natCast]
    rw [e] at this
    exact this.mono (by omega)
  · rw [(st1 _).mpr rfl, seq_next e1]
    rw [fz_e (env' := [.d false (.int (p : Int)), .d false (po f), .d false (po g), .d false (.int ((inv (g.c (ln g - 1))).val : Int)), a, .d false (.list (dt (ln f) (cf r))), .d false (.list (dt Q (cf q))), b, c, d]) rfl]
    have t1 := trimmed_po (p := p) k s (row := .list (dt Q (cf q))) (N := Q) (h := q) (.inl rfl) leq (fun i _ => rfl)
    have t2 := trimmed_po (p := p) k s (row := .list (dt (ln f) (cf r))) (N := ln f) (h := r) (.inl rfl) ler (fun i _ => rfl)
    exact congrArg endF (seq_ret (o := false) (ret_e (k := .frz) (tup2_e (x := (.frz, po q)) (y := (.frz, po r)) (call1 (x := (.frz, _)) (o := false) (v_e rfl) frzN t1) frzN (call1 (x := (.frz, _)) (o := false) (v_e rfl) frzN t2) frzN)))
end
end K10
set_option maxHeartbeats 1000000
/-! K10F: the law's own quotients; greatest divisors; fractions told. -/
namespace K10
open PySem PySem.Spec PyProof.Rows L2 Tre PT Pol
section
variable {p : Nat} [NeZero p]
def lpE (p : Nat) (fv gv : D) (l : List D) (rest : D) (u : Int) (a b : Tre.Slot) : Tre.Env := [.d false (.int (p : Int)), .d false fv, .d false gv, .d true (.list l), .d false rest, .d false (.int u), a, b]
def lpC : T := (.cmp .GtE (.bi .len (.cons (.v 4) .nil)) (.bi .len (.cons (.v 2) .nil)))
def lpB : T := (.seq (.par (.cons (.ov 6) (.cons (.ov 7) .nil)) (.cons (.op .Sub (.bi .len (.cons (.v 4) .nil)) (.bi .len (.cons (.v 2) .nil))) (.cons (.op .Mod (.bi .int (.cons (.op .Mult (.sub (.v 4) (.neg (.c (.int 1)))) (.v 5)) .nil)) (.v 0)) .nil))) (.fz [6, 7] (.seq (.setx 3 (.v 6) (.v 7)) (.seq (.asg (.v 4) (.call 33 (.cons (.v 0) (.cons (.v 4) (.cons (.op .Sub (.v 0) (.v 7)) (.cons (.op .Add (.op .Mult (.tup (.cons (.c (.int 0)) .nil)) (.v 6)) (.v 2)) .nil)))))) .nil))))
theorem lp_loop (h : Pr p) (k : Nat) (s : Src) {f g : S p} (hf : Fs f) (hg : Fs g) (hz : g ≠ 0) (hl : ln f ≤ 1000) (hl' : ln g ≤ 1000) {Q : Nat} (hQ : Q = ln f + 1 - ln g) : ∀ (N : Nat) (q r : S p) (a b : Tre.Slot), ln r ≤ N → Fs r → f = q * g + r → Le q Q → ln r ≤ ln f → (∀ i, i < ln r + 1 - ln g → q.c i = 0) →
    ∃ q' r' a' b', evS (Ph (k + 2)) G (.wh [] lpC lpB) (lpE p (po f) (po g) (dt Q (cf q)) (po r) ((inv (g.c (ln g - 1))).val : Int) a b) s = .ok (.next (lpE p (po f) (po g) (dt Q (cf q')) (po r') ((inv (g.c (ln g - 1))).val : Int) a' b')) s ∧ f = q' * g + r' ∧ Le q' Q ∧ Fs r' ∧ ln r' < ln g := by
  obtain ⟨l1, l2⟩ := ln_last hg hz
  have h2 := h.two
  intro N
  induction N with
  | zero =>
    intro q r a b hN hr e leq lr q0
    refine ⟨q, r, a, b, ?_, e, leq, hr, by omega⟩
    simp only [evS]
    refine whR_end (d := .bool false) ?_ rfl
    rw [show evE (Ph (k + 2)) G lpC (fzE (lpE p (po f) (po g) (dt Q (cf q)) (po r) ((inv (g.c (ln g - 1))).val : Int) a b) []) s = .ok (.frz, .bool false) s from cmp_e (bi1 (x := (.frz, po r)) (v_e rfl) (len_po r)) (bi1 (x := (.frz, po g)) (v_e rfl) (len_po g)) (cge (dfa (by omega)))]
    rfl
  | succ N ih =>
    intro q r a b hN hr e leq lr q0
    by_cases hlt : ln r < ln g
    · refine ⟨q, r, a, b, ?_, e, leq, hr, hlt⟩
      simp only [evS]
      refine whR_end (d := .bool false) ?_ rfl
      rw [show evE (Ph (k + 2)) G lpC (fzE (lpE p (po f) (po g) (dt Q (cf q)) (po r) ((inv (g.c (ln g - 1))).val : Int) a b) []) s = .ok (.frz, .bool false) s from cmp_e (bi1 (x := (.frz, po r)) (v_e rfl) (len_po r)) (bi1 (x := (.frz, po g)) (v_e rfl) (len_po g)) (cge (dfa (by omega)))]
      rfl
    · obtain ⟨m, hm⟩ : ∃ m, m = ln r - ln g := ⟨_, rfl⟩
      obtain ⟨A, hA⟩ : ∃ A, A = r.c (m + ln g - 1) * inv (g.c (ln g - 1)) := ⟨_, rfl⟩
      have lap : Lap f g q r (m + 1) := ⟨e, (ln_le hr).mono (by omega)⟩
      have nx := lap_next h hg hz lap A hA
      have hmQ : m < Q := by omega
      have eA : (cf r (ln r - 1) * ((inv (g.c (ln g - 1))).val : Int)) % (p : Int) = (A.val : Int) := by
        rw [hA, show m + ln g - 1 = ln r - 1 by omega]
        exact num_e h _ _
      have q0' : q.c m = 0 := q0 m (by omega)
      have nfs : Fs (r - cst A * (zp m * g)) := ⟨_, nx.le⟩
      have nlr : ln (r - cst A * (zp m * g)) ≤ ln r - 1 := ln_min (nx.le.mono (by omega))
      have nleq : Le (q + cst A * zp m) Q := leq.add (le_cst _ fun i hi => by rw [zp_at, if_neg (by omega)])
      obtain ⟨q', r', a', b', e5, rest⟩ := ih (q + cst A * zp m) (r - cst A * (zp m * g)) (.d false (.int (m : Nat))) (.d false (.int (A.val : Int))) (by omega) nfs nx.e nleq (by omega) (fun i hi => by
        rw [add_c, cst_c', zp_at, if_neg (by omega), q0 i (by omega)]
        grind)
      refine ⟨q', r', a', b', ?_, rest⟩
      rw [← e5]
      simp only [evS]
      refine whR_next (d := .bool true) (s1 := s) ?_ rfl ?_
      · rw [show evE (Ph (k + 2)) G lpC (fzE (lpE p (po f) (po g) (dt Q (cf q)) (po r) ((inv (g.c (ln g - 1))).val : Int) a b) []) s = .ok (.frz, .bool true) s from cmp_e (bi1 (x := (.frz, po r)) (v_e rfl) (len_po r)) (bi1 (x := (.frz, po g)) (v_e rfl) (len_po g)) (cge (dtr (by omega)))]
        rfl
      · show evS (Ph (k + 2)) G lpB (lpE p (po f) (po g) (dt Q (cf q)) (po r) ((inv (g.c (ln g - 1))).val : Int) a b) s = _
        unfold lpB
        have em : ((ln r : Nat) : Int) - (ln g : Nat) = (m : Nat) := by omega
        have s1 : evA (Ph (k + 2)) G (.cons (.op .Sub (.bi .len (.cons (.v 4) .nil)) (.bi .len (.cons (.v 2) .nil))) (.cons (.op .Mod (.bi .int (.cons (.op .Mult (.sub (.v 4) (.neg (.c (.int 1)))) (.v 5)) .nil)) (.v 0)) .nil)) (lpE p (po f) (po g) (dt Q (cf q)) (po r) ((inv (g.c (ln g - 1))).val : Int) a b) s = .ok [(.frz, .int (m : Nat)), (.frz, .int (A.val : Int))] s := by
          refine ea_cons (s1 := s) ?_ (ea_cons (s1 := s) ?_ ea_nil)
          · rw [← em]
            exact op_e (bi1 (x := (.frz, po r)) (v_e rfl) (len_po r)) (bi1 (x := (.frz, po g)) (v_e rfl) (len_po g)) (os _ _)
          · rw [← eA]
            exact op_e (bi1 (op_e (sub_e (x := (.frz, po r)) (v_e rfl) (neg_e ev_c) (subL_po (by omega))) (v_e rfl) (om (.inr (val_small h _)))) rfl) (v_e rfl) (omod (by omega))
        rw [seq_next (par_e s1 (env' := lpE p (po f) (po g) (dt Q (cf q)) (po r) ((inv (g.c (ln g - 1))).val : Int) (.d false (.int (m : Nat))) (.d false (.int (A.val : Int)))) rfl)]
        rw [fz_e (env' := lpE p (po f) (po g) (dt Q (cf q)) (po r) ((inv (g.c (ln g - 1))).val : Int) (.d false (.int (m : Nat))) (.d false (.int (A.val : Int)))) rfl]
        rw [seq_next (env' := lpE p (po f) (po g) (dt Q (cf (q + cst A * zp m))) (po r) ((inv (g.c (ln g - 1))).val : Int) (.d false (.int (m : Nat))) (.d false (.int (A.val : Int)))) (s' := s) (by
          rw [← found_e q0']
          exact setx_e (k := .frz) (j := m) (n := Q) (φ := cf q) rfl (v_e rfl) frzN (v_e rfl) hmQ)]
        have la := ladd_ok h k s ((p : Int) - (A.val : Int)) hr ((zp_fs m).mul hg) (by omega) (by rw [zp_ln m hg hz]; omega)
        have ec : fi p ((p : Int) - (A.val : Int)) = -A := by
          rw [fi_sub, fi_of]
          have : fi p (p : Int) = 0 := by
            have e : fi p (p : Int) = fi p 0 := fi_eq.mpr (by simp)
            rw [e, fi_zero]
          rw [this]
          grind
        have eX : r + cst (-A) * (zp m * g) = r - cst A * (zp m * g) := by
          refine Ser.ext (funext fun n => ?_)
          rw [add_c, sub_c, cst_c', cst_c']
          grind
        rw [ec, eX] at la
        refine one_e (asg_e (call4 (x := (.frz, .int (p : Int))) (y := (.frz, po r)) (z := (.frz, .int ((p : Int) - (A.val : Int)))) (w := (.frz, po (zp m * g))) (o := false) (v_e rfl) frzN (v_e rfl) frzN (op_e (v_e rfl) (v_e rfl) (os _ _)) frzN (op_e (op_e (tup_e (ea_cons ev_c ea_nil) rfl (by rw [sizeL]; show 1 ≤ _; omega)) (v_e rfl) (rep0T (n := m) rfl (by omega))) (v_e rfl) (shift_e hg hz (by omega))) frzN la) rfl)
theorem lparted_ok (h : Pr p) (k : Nat) (s : Src) {f g : S p} (hf : Fs f) (hg : Fs g) (hz : g ≠ 0) (hl : ln f ≤ 1000) (hl' : ln g ≤ 1000) :
    ∃ q r, f = q * g + r ∧ Fs q ∧ Le r (ln g - 1) ∧ Ph (k + 3) 36 [.d (.int (p : Int)), .d (po f), .d (po g)] s = .ok (false, .tuple [po q, po r]) s := by
  obtain ⟨l1, l2⟩ := ln_last hg hz
  obtain ⟨Q, hQ⟩ : ∃ Q, Q = ln f + 1 - ln g := ⟨_, rfl⟩
  have hmx : biF .max [.int 0, .int (((ln f : Nat) : Int) - (ln g : Nat) + 1)] = some (.frz, .int (Q : Nat)) := by
    show some (Kd.frz, PyData.int (if ((ln f : Nat) : Int) - (ln g : Nat) + 1 > 0 then ((ln f : Nat) : Int) - (ln g : Nat) + 1 else 0)) = _
    by_cases q : ((ln f : Nat) : Int) - (ln g : Nat) + 1 > 0
    · rw [if_pos q, show ((ln f : Nat) : Int) - (ln g : Nat) + 1 = (Q : Nat) by omega]
    · rw [if_neg q, show (0 : Int) = (Q : Nat) by omega]
  obtain ⟨q, r, a, b, e1, e2, leq, hr, lr⟩ := lp_loop h k s hf hg hz hl hl' hQ (ln f) 0 f .e .e (Nat.le_refl _) hf (by grind) (fun i _ => zero_c i) (Nat.le_refl _) (fun i _ => zero_c i)
  refine ⟨q, r, e2, ⟨Q, leq⟩, (ln_le hr).mono (by omega), ?_⟩
  show endF (evS (Ph (k + 2)) G b__law_parted [.d false (.int (p : Int)), .d false (po f), .d false (po g), .e, .e, .e, .e, .e] s) = _
  unfold b__law_parted
  rw [seq_next (env' := [.d false (.int (p : Int)), .d false (po f), .d false (po g), .d true (.list (dt Q fun _ => 0)), .d false (po f), .d false (.int ((inv (g.c (ln g - 1))).val : Int)), .e, .e]) (s' := s) (par_e (ea_cons (op_e (lst_e (ea_cons ev_c ea_nil) rfl (by rw [sizeL]; show 1 ≤ _; omega)) (bi2 ev_c (op_e (op_e (bi1 (x := (.frz, po f)) (v_e rfl) (len_po f)) (bi1 (x := (.frz, po g)) (v_e rfl) (len_po g)) (os _ _)) ev_c (oa _ _)) hmx) (rep0L (n := Q) rfl (by omega))) (ea_cons (v_e rfl) (ea_cons (call2 (x := (.frz, .int (p : Int))) (y := (.frz, .int (cf g (ln g - 1)))) (o := false) (v_e rfl) frzN (sub_e (x := (.frz, po g)) (v_e rfl) (neg_e ev_c) (subL_po l2)) frzN (linverse_ok h (k + 1) s l1)) ea_nil))) rfl)]
  rw [fz_e (env' := lpE p (po f) (po g) (dt Q fun _ => 0) (po f) ((inv (g.c (ln g - 1))).val : Int) .e .e) rfl]
  have e0 : dt Q (cf (0 : S p)) = dt Q fun _ => 0 := dt_congr fun i _ => cf_zero.mpr (zero_c i)
  rw [e0] at e1
  unfold lpC lpB at e1
  rw [seq_next e1]
  rw [fz_e (env' := [.d false (.int (p : Int)), .d false (po f), .d false (po g), .d false (.list (dt Q (cf q))), .d false (po r), .d false (.int ((inv (g.c (ln g - 1))).val : Int)), a, b]) rfl]
  have t1 := ltrim_po (p := p) (k + 1) s (row := .list (dt Q (cf q))) (N := Q) (h := q) (.inl rfl) leq (fun i _ => rfl)
  exact congrArg endF (seq_ret (o := false) (ret_e (k := .frz) (tup2_e (x := (.frz, po q)) (y := (.frz, po r)) (call1 (x := (.frz, _)) (o := false) (v_e rfl) frzN t1) frzN (v_e rfl) frzN)))
/-- what a division tells -/
def Divs (Φ : Nat → List Tre.Arg → Src → R (Bool × D)) (p : Nat) [NeZero p] (n B : Nat) : Prop := ∀ (s : Src) (f g : S p), Fs f → Fs g → g ≠ 0 → ln f ≤ B → ln g ≤ B → ∃ q r, f = q * g + r ∧ Fs q ∧ Le r (ln g - 1) ∧ Φ n [.d (.int (p : Int)), .d (po f), .d (po g)] s = .ok (false, .tuple [po q, po r]) s
theorem divs (h : Pr p) (k : Nat) : Divs (Ph (k + 2)) p 12 1000 := fun s f g hf hg hz hl hl' => parted_ok h k s hf hg hz (by omega) (by omega)
theorem ldivs (h : Pr p) (k : Nat) : Divs (Ph (k + 3)) p 36 1000 := fun s f g hf hg hz hl hl' => lparted_ok h k s hf hg hz hl hl'
/-! ### greatest divisors -/
def coE (p : Nat) (fv gv : D) : Tre.Env := [.d false (.int (p : Int)), .d false fv, .d false gv]
def coC : T := (.cmp .NotEq (.v 2) (.tup .nil))
def coB (n : Nat) : T := (.seq (.par (.cons (.ov 1) (.cons (.ov 2) .nil)) (.cons (.v 2) (.cons (.sub (.call n (.cons (.v 0) (.cons (.v 1) (.cons (.v 2) .nil)))) (.c (.int 1))) .nil))) (.fz [1, 2] .nil))
theorem co_loop {Φ : Nat → List Tre.Arg → Src → R (Bool × D)} {Gg : Nat → Option D} {n B : Nat} (dv : Divs Φ p n B) (s : Src) : ∀ (N : Nat) (f g : S p), ln g ≤ N → Fs f → Fs g → ln f ≤ B → ln g ≤ B →
    ∃ d, Gcd f g d ∧ Fs d ∧ ln d ≤ B ∧ evS Φ Gg (.wh [] coC (coB n)) (coE p (po f) (po g)) s = .ok (.next (coE p (po d) (po (0 : S p)))) s := by
  intro N
  induction N with
  | zero =>
    intro f g hN hf hg hl hl'
    have z : g = 0 := (ln_zero hg).mp (by omega)
    subst z
    refine ⟨f, Gcd.base f, hf, hl, ?_⟩
    simp only [evS]
    refine whR_end (d := .bool false) ?_ rfl
    obtain ⟨b, e1, i1⟩ := eqF_po0 (Fs.zero (R := Fin p))
    rw [i1.mpr rfl] at e1
    rw [show evE Φ Gg coC (fzE (coE p (po f) (po (0 : S p))) []) s = .ok (.frz, .bool false) s from cmp_e (v_e rfl) tup0_e (cne e1)]
    rfl
  | succ N ih =>
    intro f g hN hf hg hl hl'
    by_cases z : g = 0
    · subst z
      exact ih f 0 (by rw [(ln_zero Fs.zero).mpr rfl]; omega) hf hg hl hl'
    · obtain ⟨q, r, e, hq, ler, ev⟩ := dv s f g hf hg z hl hl'
      obtain ⟨_, l2⟩ := ln_last hg z
      have lr := ln_min ler
      obtain ⟨d, hd, fd, ld, e2⟩ := ih g r (by omega) hg ⟨_, ler⟩ hl' (by omega)
      refine ⟨d, Gcd.step hq e hd, fd, ld, ?_⟩
      rw [← e2]
      simp only [evS]
      obtain ⟨b, e1, i1⟩ := eqF_po0 hg
      have hb : b = false := by cases b with
        | false => rfl
        | true => exact absurd (i1.mp rfl) z
      rw [hb] at e1
      refine whR_next (d := .bool true) (s1 := s) ?_ rfl ?_
      · rw [show evE Φ Gg coC (fzE (coE p (po f) (po g)) []) s = .ok (.frz, .bool true) s from cmp_e (v_e rfl) tup0_e (cne e1)]
        rfl
      · show evS Φ Gg (coB n) (coE p (po f) (po g)) s = _
        unfold coB
        rw [seq_next (env' := coE p (po g) (po r)) (s' := s) (par_e (ea_cons (v_e rfl) (ea_cons (sub_e (x := (.frz, .tuple [po q, po r])) (y := (.frz, .int 1)) (d := po r) (call3 (x := (.frz, .int (p : Int))) (y := (.frz, po f)) (z := (.frz, po g)) (o := false) (v_e rfl) frzN (v_e rfl) frzN (v_e rfl) frzN ev) ev_c (Tre.atI_nat [po q, po r] 1)) ea_nil)) rfl)]
        rw [fz_e (env' := coE p (po g) (po r)) rfl, ev_nil]
/-- the greatest divisor, its last number 1 -/
def MG (f g d : S p) : Prop := (f = 0 ∧ g = 0 ∧ d = 0) ∨ (Gcd f g d ∧ d ≠ 0 ∧ d.c (ln d - 1) = 1)
theorem MG.uniq (h : Pr p) {f g d d' : S p} (hf : Fs f) (hg : Fs g) (h1 : MG f g d) (h2 : MG f g d') : d = d' := by
  rcases h1 with ⟨z1, z2, z3⟩ | ⟨g1, z1, l1⟩
  · rcases h2 with ⟨_, _, y3⟩ | ⟨g2, y1, l2⟩
    · rw [z3, y3]
    · refine absurd ?_ y1
      obtain ⟨_, _, u, v, _, _, e⟩ := g2
      rw [z1, z2] at e
      grind
  · rcases h2 with ⟨z1', z2', y3⟩ | ⟨g2, y1, l2⟩
    · refine absurd ?_ z1
      obtain ⟨_, _, u, v, _, _, e⟩ := g1
      rw [z1', z2'] at e
      grind
    · have d1 := lst_deg (g1.fs hf hg) z1
      have d2 := lst_deg (g2.fs hf hg) y1
      exact g1.uniq h.F g2 d1.1 d2.1 l1 l2
theorem mono_ok (h : Pr p) {f g d : S p} (hg : Gcd f g d) (fd : Fs d) (z : d ≠ 0) : MG f g (cst (inv (d.c (ln d - 1))) * d) ∧ ln (cst (inv (d.c (ln d - 1))) * d) = ln d := by
  obtain ⟨l1, l2⟩ := ln_last fd z
  have hi := inv_ok h l1
  have e1 : (cst (inv (d.c (ln d - 1))) * d).c (ln d - 1) = 1 := by
    rw [cst_c']; grind
  have el : ln (cst (inv (d.c (ln d - 1))) * d) = ln d := ln_eq (le_cst _ (ln_le fd)) l2 (by rw [e1]; exact fun y => h.F.ne y.symm)
  refine ⟨.inr ⟨hg.unit (b := d.c (ln d - 1)) (by grind), fun y => ?_, by rw [el]; exact e1⟩, el⟩
  rw [y, zero_c] at e1
  exact h.F.ne e1
theorem common_ok (h : Pr p) (k : Nat) (s : Src) {f g : S p} (hf : Fs f) (hg : Fs g) {B : Nat} (hB : B ≤ 1000) (hl : ln f ≤ B) (hl' : ln g ≤ B) :
    ∃ d, MG f g d ∧ Fs d ∧ ln d ≤ B ∧ Ph (k + 3) 13 [.d (.int (p : Int)), .d (po f), .d (po g)] s = .ok (false, po d) s := by
  have dv : Divs (Ph (k + 2)) p 12 B := fun s f g hf hg hz hl hl' => divs h k s f g hf hg hz (by omega) (by omega)
  obtain ⟨d, hd, fd, ld, e⟩ := co_loop (Gg := G) dv s (ln g) f g (Nat.le_refl _) hf hg hl hl'
  have st : ∀ r, endF (evS (Ph (k + 2)) G (.seq (.ret (.ife (.cmp .NotEq (.v 1) (.tup .nil)) (.call 6 (.cons (.v 0) (.cons (.call 4 (.cons (.v 0) (.cons (.sub (.v 1) (.neg (.c (.int 1)))) .nil))) (.cons (.v 1) .nil)))) (.tup .nil))) .nil) (coE p (po d) (po (0 : S p))) s) = r → Ph (k + 3) 13 [.d (.int (p : Int)), .d (po f), .d (po g)] s = r := fun r hr => by
    rw [← hr]
    show endF (evS (Ph (k + 2)) G b_common (coE p (po f) (po g)) s) = _
    unfold b_common
    unfold coC coB at e
    rw [seq_next e]
  obtain ⟨b, e1, i1⟩ := eqF_po0 fd
  by_cases z : d = 0
  · rw [i1.mpr z] at e1
    refine ⟨0, .inl ?_, Fs.zero, by rw [(ln_zero Fs.zero).mpr rfl]; omega, st _ ?_⟩
    · obtain ⟨⟨t, _, e1⟩, ⟨t', _, e2⟩, _⟩ := hd
      exact ⟨by rw [e1, z]; grind, by rw [e2, z]; grind, rfl⟩
    · rw [po_zero]
      refine congrArg endF (seq_ret (o := false) (ret_e (k := .frz) ?_))
      rw [ife_f (x := (.frz, .bool false)) (cmp_e (v_e rfl) tup0_e (cne e1)) rfl]
      exact tup0_e
  · have hb : b = false := by cases b with
      | false => rfl
      | true => exact absurd (i1.mp rfl) z
    rw [hb] at e1
    obtain ⟨l1, l2⟩ := ln_last fd z
    obtain ⟨m1, m2⟩ := mono_ok h hd fd z
    have sc := scaled_ok h k s ((inv (d.c (ln d - 1))).val : Int) fd (by omega)
    rw [fi_of] at sc
    refine ⟨_, m1, fs_cst _ fd, by rw [m2]; exact ld, st _ ?_⟩
    refine congrArg endF (seq_ret (o := false) (ret_e (k := .frz) ?_))
    rw [ife_t (x := (.frz, .bool true)) (cmp_e (v_e rfl) tup0_e (cne e1)) rfl]
    exact call3 (x := (.frz, .int (p : Int))) (y := (.frz, .int ((inv (d.c (ln d - 1))).val : Int))) (z := (.frz, po d)) (o := false) (v_e rfl) frzN (call2 (x := (.frz, .int (p : Int))) (y := (.frz, .int (cf d (ln d - 1)))) (o := false) (v_e rfl) frzN (sub_e (x := (.frz, po d)) (v_e rfl) (neg_e ev_c) (subL_po l2)) frzN (inverse_ok h (k + 1) s l1)) frzN (v_e rfl) frzN sc
theorem lcommon_ok (h : Pr p) (k : Nat) (s : Src) {f g : S p} (hf : Fs f) (hg : Fs g) {B : Nat} (hB : B ≤ 1000) (hl : ln f ≤ B) (hl' : ln g ≤ B) :
    ∃ d, MG f g d ∧ Fs d ∧ ln d ≤ B ∧ Ph (k + 4) 37 [.d (.int (p : Int)), .d (po f), .d (po g)] s = .ok (false, po d) s := by
  have dv : Divs (Ph (k + 3)) p 36 B := fun s f g hf hg hz hl hl' => ldivs h k s f g hf hg hz (by omega) (by omega)
  obtain ⟨d, hd, fd, ld, e⟩ := co_loop (Gg := G) dv s (ln g) f g (Nat.le_refl _) hf hg hl hl'
  have st : ∀ r, endF (evS (Ph (k + 3)) G (.seq (.ret (.ife (.cmp .NotEq (.v 1) (.tup .nil)) (.call 34 (.cons (.v 0) (.cons (.tup (.cons (.call 35 (.cons (.v 0) (.cons (.sub (.v 1) (.neg (.c (.int 1)))) .nil))) .nil)) (.cons (.v 1) .nil)))) (.tup .nil))) .nil) (coE p (po d) (po (0 : S p))) s) = r → Ph (k + 4) 37 [.d (.int (p : Int)), .d (po f), .d (po g)] s = r := fun r hr => by
    rw [← hr]
    show endF (evS (Ph (k + 3)) G b__law_common (coE p (po f) (po g)) s) = _
    unfold b__law_common
    unfold coC coB at e
    rw [seq_next e]
  obtain ⟨b, e1, i1⟩ := eqF_po0 fd
  by_cases z : d = 0
  · rw [i1.mpr z] at e1
    refine ⟨0, .inl ?_, Fs.zero, by rw [(ln_zero Fs.zero).mpr rfl]; omega, st _ ?_⟩
    · obtain ⟨⟨t, _, e1⟩, ⟨t', _, e2⟩, _⟩ := hd
      exact ⟨by rw [e1, z]; grind, by rw [e2, z]; grind, rfl⟩
    · rw [po_zero]
      refine congrArg endF (seq_ret (o := false) (ret_e (k := .frz) ?_))
      rw [ife_f (x := (.frz, .bool false)) (cmp_e (v_e rfl) tup0_e (cne e1)) rfl]
      exact tup0_e
  · have hb : b = false := by cases b with
      | false => rfl
      | true => exact absurd (i1.mp rfl) z
    rw [hb] at e1
    obtain ⟨l1, l2⟩ := ln_last fd z
    obtain ⟨m1, m2⟩ := mono_ok h hd fd z
    have hiz : inv (d.c (ln d - 1)) ≠ 0 := fun y => h.F.ne (by have := inv_ok h l1; rw [y] at this; grind)
    have sc := lmul_ok h (k + 1) s (Fs.cst (inv (d.c (ln d - 1)))) fd (by rw [show ln (cst (inv (d.c (ln d - 1))) : S p) = 1 from ln_eq (fun i hi => by rw [cst_c, if_neg (by omega)]) (by omega) (by rw [cst_c, if_pos rfl]; exact hiz)]; omega) (by omega)
    rw [po_cst hiz] at sc
    refine ⟨_, m1, fs_cst _ fd, by rw [m2]; exact ld, st _ ?_⟩
    refine congrArg endF (seq_ret (o := false) (ret_e (k := .frz) ?_))
    rw [ife_t (x := (.frz, .bool true)) (cmp_e (v_e rfl) tup0_e (cne e1)) rfl]
    exact call3 (x := (.frz, .int (p : Int))) (y := (.frz, .tuple [.int ((inv (d.c (ln d - 1))).val : Int)])) (z := (.frz, po d)) (o := false) (v_e rfl) frzN (tup_e (ea_cons (call2 (x := (.frz, .int (p : Int))) (y := (.frz, .int (cf d (ln d - 1)))) (o := false) (v_e rfl) frzN (sub_e (x := (.frz, po d)) (v_e rfl) (neg_e ev_c) (subL_po l2)) frzN (linverse_ok h (k + 2) s l1)) ea_nil) rfl (by rw [sizeL]; show 1 ≤ _; omega)) frzN (v_e rfl) frzN sc
end
end K10
set_option maxHeartbeats 1000000
/-! K10G: fractions told. -/
namespace K10
open PySem PySem.Spec PyProof.Rows L2 Tre PT Pol
section
variable {p : Nat} [NeZero p]
/-- a fraction's value -/
noncomputable def fr (a b : S p) : D := .tuple [po a, po b]
noncomputable def frD : Option (S p × S p) → D
  | some (a, b) => fr a b
  | none => .none
noncomputable def frX (o : Option (S p × S p)) (s : Src) : R (Bool × D) := match o with
  | some (a, b) => .ok (false, fr a b) s
  | none => .exc 0 [] s
theorem quot_le (h : Pr p) {f a d : S p} (e : f = a * d) (hd : d ≠ 0) (fa : Fs a) (fd : Fs d) : ln a ≤ ln f := by
  by_cases z : a = 0
  · rw [(ln_zero fa).mpr z]; omega
  · have d1 := (lst_deg fa z).1
    have d2 := (lst_deg fd hd).1
    have d3 := d1.mul h.F d2
    rw [← e] at d3
    have zf : f ≠ 0 := nz_iff.mpr ⟨_, d3.1⟩
    have ff : Fs f := by rw [e]; exact fa.mul fd
    have d4 := (lst_deg ff zf).1
    have := d3.uniq d4
    have l2 := (ln_last fa z).2
    have l3 := (ln_last ff zf).2
    show (lst a).length ≤ (lst f).length
    have : 0 < (lst a).length := l2
    have : 0 < (lst f).length := l3
    omega
theorem fs_of_le {f : S p} {n : Nat} (h : Le f n) : Fs f := ⟨n, h⟩
/-- a divisor leaves no rest -/
theorem exact_div (h : Pr p) {f d q r : S p} (fd : Fs d) (hd : d ≠ 0) (hq : Fs q) (e : f = q * d + r) (ler : Le r (ln d - 1)) (dv : Dv d f) : f = q * d := by
  obtain ⟨t, ht, e2⟩ := dv
  have dg := (lst_deg fd hd).1
  have := div_uniq h.F (g := d) (m := ln d - 1) dg ler (fun i _ => zero_c i) hq ht (q := q) (q' := t) (r := r) (r' := 0) (by rw [← e, e2]; grind)
  rw [e, this.2]
  grind
theorem frac_core (h : Pr p) {f g d q r q' r' : S p} (fd : Fs d) (hz : g ≠ 0) (m : MG f g d) (hq : Fs q) (hq' : Fs q') (e : f = q * d + r) (ler : Le r (ln d - 1)) (e' : g = q' * d + r') (ler' : Le r' (ln d - 1)) :
    d ≠ 0 ∧ Gcd f g d ∧ f = q * d ∧ g = q' * d ∧ q' ≠ 0 := by
  rcases m with ⟨_, z, _⟩ | ⟨hg, zd, _⟩
  · exact absurd z hz
  · have x1 := exact_div h fd zd hq e ler hg.df
    have x2 := exact_div h fd zd hq' e' ler' hg.dg
    exact ⟨zd, hg, x1, x2, fun z => hz (by rw [x2, z]; grind)⟩
theorem sub0_po {f : S p} (h : 0 < ln f) : subF (po f) (.int 0) = some (.int (cf f 0)) := sub_po h
theorem cf0_nz {f : S p} (h : f.c 0 ≠ 0) : cf f 0 ≠ 0 := fun z => h (cf_zero.mp z)
theorem bfalse {b : Bool} {q : Prop} (i : b = true ↔ q) (n : ¬ q) : b = false := by
  cases b with
  | false => rfl
  | true => exact absurd (i.mp rfl) n
theorem fraction_ok (h : Pr p) (k : Nat) (s : Src) {f g : S p} (hf : Fs f) (hg : Fs g) (hl : ln f ≤ 1000) (hl' : ln g ≤ 1000) :
    ∃ o, FrS f g o ∧ (∀ a b, o = some (a, b) → ln a ≤ ln f ∧ ln b ≤ ln g) ∧ Ph (k + 4) 15 [.d (.int (p : Int)), .d (po f), .d (po g)] s = frX o s := by
  have h2 := h.two
  have st : ∀ r, endF (evS (Ph (k + 3)) G b_fraction [.d false (.int (p : Int)), .d false (po f), .d false (po g), .e, .e, .e, .e] s) = r → Ph (k + 4) 15 [.d (.int (p : Int)), .d (po f), .d (po g)] s = r := fun r h => h
  obtain ⟨b0, e0, i0⟩ := eqF_po0 hg
  by_cases z : g = 0
  · rw [i0.mpr z] at e0
    refine ⟨none, .zero z, fun a b q => (nomatch q), st _ ?_⟩
    unfold b_fraction
    refine congrArg endF (seq_exc ?_)
    rw [ifs_t (x := (.frz, .bool true)) (s' := s) (cmp_e (v_e rfl) tup0_e (ceq e0)) rfl]
    exact seq_exc raise0_e
  · rw [bfalse i0 z] at e0
    obtain ⟨d, m, fd, ld, ev⟩ := common_ok h k s hf hg (B := 1000) (Nat.le_refl _) hl hl'
    have zd : d ≠ 0 := by
      rcases m with ⟨_, y, _⟩ | ⟨_, y, _⟩
      · exact absurd y z
      · exact y
    obtain ⟨q, r, x1, hq, ler, ev1⟩ := parted_ok h (k + 1) s hf fd zd (by omega) (by omega)
    obtain ⟨q', r', x2, hq', ler', ev2⟩ := parted_ok h (k + 1) s hg fd zd (by omega) (by omega)
    obtain ⟨_, hgc, y1, y2, zq⟩ := frac_core h fd z m hq hq' x1 ler x2 ler'
    obtain ⟨_, lq⟩ := ln_last hq' zq
    have c1 : evS (Ph (k + 3)) G b_fraction [.d false (.int (p : Int)), .d false (po f), .d false (po g), .e, .e, .e, .e] s = evS (Ph (k + 3)) G (.seq (.ifs (.cmp .Eq (.sub (.v 6) (.c (.int 0))) (.c (.int 0))) (.seq (.raise 0 0 .nil) .nil) .nil) (.seq (.asg (.v 4) (.call 4 (.cons (.v 0) (.cons (.sub (.v 6) (.c (.int 0))) .nil)))) (.seq (.ret (.tup (.cons (.call 6 (.cons (.v 0) (.cons (.v 4) (.cons (.v 5) .nil)))) (.cons (.call 6 (.cons (.v 0) (.cons (.v 4) (.cons (.v 6) .nil)))) .nil)))) .nil)))
        [.d false (.int (p : Int)), .d false (po f), .d false (po g), .d false (po d), .e, .d false (po q), .d false (po q')] s := by
      unfold b_fraction
      rw [seq_next (env' := [.d false (.int (p : Int)), .d false (po f), .d false (po g), .e, .e, .e, .e]) (s' := s) (by
        rw [ifs_f (x := (.frz, .bool false)) (s' := s) (cmp_e (v_e rfl) tup0_e (ceq e0)) rfl, ev_nil])]
      rw [seq_next (env' := [.d false (.int (p : Int)), .d false (po f), .d false (po g), .d false (po d), .e, .e, .e]) (s' := s) (asg_e (call3 (x := (.frz, .int (p : Int))) (y := (.frz, po f)) (z := (.frz, po g)) (o := false) (v_e rfl) frzN (v_e rfl) frzN (v_e rfl) frzN ev) rfl)]
      rw [seq_next (env' := [.d false (.int (p : Int)), .d false (po f), .d false (po g), .d false (po d), .e, .d false (po q), .d false (po q')]) (s' := s) (par_e (ea_cons (sub_e (x := (.frz, .tuple [po q, po r])) (y := (.frz, .int 0)) (d := po q) (call3 (x := (.frz, .int (p : Int))) (y := (.frz, po f)) (z := (.frz, po d)) (o := false) (v_e rfl) frzN (v_e rfl) frzN (v_e rfl) frzN ev1) ev_c (Tre.atI_nat [po q, po r] 0)) (ea_cons (sub_e (x := (.frz, .tuple [po q', po r'])) (y := (.frz, .int 0)) (d := po q') (call3 (x := (.frz, .int (p : Int))) (y := (.frz, po g)) (z := (.frz, po d)) (o := false) (v_e rfl) frzN (v_e rfl) frzN (v_e rfl) frzN ev2) ev_c (Tre.atI_nat [po q', po r'] 0)) ea_nil)) rfl)]
      rw [fz_e (env' := [.d false (.int (p : Int)), .d false (po f), .d false (po g), .d false (po d), .e, .d false (po q), .d false (po q')]) rfl]
    by_cases z0 : q'.c 0 = 0
    · refine ⟨none, .odd z hq hq' y1 y2 (hgc.cop h.F zd y1 y2) z0, fun a b q => (nomatch q), st _ ?_⟩
      rw [c1]
      refine congrArg endF (seq_exc ?_)
      rw [ifs_t (x := (.frz, .bool true)) (s' := s) (cmp_e (sub_e (x := (.frz, po q')) (v_e rfl) ev_c (sub0_po lq)) ev_c (ceqi (dtr (cf_zero.mpr z0)))) rfl]
      exact seq_exc raise0_e
    · have hi := inv_ok h z0
      have hiz : inv (q'.c 0) ≠ 0 := fun y => h.F.ne (by rw [y] at hi; grind)
      have l1 := quot_le h y1 zd hq fd
      have l2 := quot_le h y2 zd hq' fd
      have sc1 := scaled_ok h (k + 1) s ((inv (q'.c 0)).val : Int) hq (by omega)
      have sc2 := scaled_ok h (k + 1) s ((inv (q'.c 0)).val : Int) hq' (by omega)
      rw [fi_of] at sc1 sc2
      refine ⟨some (cst (inv (q'.c 0)) * q, cst (inv (q'.c 0)) * q'), FrS.make (y := (0 : _root_.Fin p)) h.F z hq hq' hgc y1 y2 hi, fun a b e => ?_, st _ ?_⟩
      · cases e
        have := ln_min (le_cst (inv (q'.c 0)) (ln_le hq))
        have := ln_min (le_cst (inv (q'.c 0)) (ln_le hq'))
        omega
      · rw [c1]
        rw [seq_next (env' := [.d false (.int (p : Int)), .d false (po f), .d false (po g), .d false (po d), .e, .d false (po q), .d false (po q')]) (s' := s) (by
          rw [ifs_f (x := (.frz, .bool false)) (s' := s) (cmp_e (sub_e (x := (.frz, po q')) (v_e rfl) ev_c (sub0_po lq)) ev_c (ceqi (dfa (cf0_nz z0)))) rfl, ev_nil])]
        rw [seq_next (env' := [.d false (.int (p : Int)), .d false (po f), .d false (po g), .d false (po d), .d false (.int ((inv (q'.c 0)).val : Int)), .d false (po q), .d false (po q')]) (s' := s) (asg_e (call2 (x := (.frz, .int (p : Int))) (y := (.frz, .int (cf q' 0))) (o := false) (v_e rfl) frzN (sub_e (x := (.frz, po q')) (v_e rfl) ev_c (sub0_po lq)) frzN (inverse_ok h (k + 2) s z0)) rfl)]
        exact congrArg endF (seq_ret (o := false) (ret_e (k := .frz) (tup2_e (x := (.frz, po _)) (y := (.frz, po _)) (call3 (x := (.frz, .int (p : Int))) (y := (.frz, .int ((inv (q'.c 0)).val : Int))) (z := (.frz, po q)) (o := false) (v_e rfl) frzN (v_e rfl) frzN (v_e rfl) frzN sc1) frzN (call3 (x := (.frz, .int (p : Int))) (y := (.frz, .int ((inv (q'.c 0)).val : Int))) (z := (.frz, po q')) (o := false) (v_e rfl) frzN (v_e rfl) frzN (v_e rfl) frzN sc2) frzN)))
theorem ln_cst {a : Fin p} (h : a ≠ 0) : ln (cst a : S p) = 1 := ln_eq (fun i hi => by rw [cst_c, if_neg (by omega)]) (by omega) (by rw [cst_c, if_pos rfl]; exact h)
theorem lfraction_ok (h : Pr p) (k : Nat) (s : Src) {f g : S p} (hf : Fs f) (hg : Fs g) (hl : ln f ≤ 1000) (hl' : ln g ≤ 1000) :
    ∃ o, FrS f g o ∧ (∀ a b, o = some (a, b) → ln a ≤ ln f ∧ ln b ≤ ln g) ∧ Ph (k + 5) 39 [.d (.int (p : Int)), .d (po f), .d (po g)] s = .ok (false, frD o) s := by
  have h2 := h.two
  have st : ∀ r, endF (evS (Ph (k + 4)) G b__law_fraction [.d false (.int (p : Int)), .d false (po f), .d false (po g), .e, .e, .e, .e] s) = r → Ph (k + 5) 39 [.d (.int (p : Int)), .d (po f), .d (po g)] s = r := fun r h => h
  obtain ⟨b0, e0, i0⟩ := eqF_po0 hg
  by_cases z : g = 0
  · rw [i0.mpr z] at e0
    refine ⟨none, .zero z, fun a b q => (nomatch q), st _ ?_⟩
    unfold b__law_fraction
    refine congrArg endF (seq_ret (o := false) ?_)
    rw [ifs_t (x := (.frz, .bool true)) (s' := s) (cmp_e (v_e rfl) tup0_e (ceq e0)) rfl]
    exact seq_ret (o := false) (ret_e (k := .frz) ev_c)
  · rw [bfalse i0 z] at e0
    obtain ⟨d, m, fd, ld, ev⟩ := lcommon_ok h k s hf hg (B := 1000) (Nat.le_refl _) hl hl'
    have zd : d ≠ 0 := by
      rcases m with ⟨_, y, _⟩ | ⟨_, y, _⟩
      · exact absurd y z
      · exact y
    obtain ⟨q, r, x1, hq, ler, ev1⟩ := lparted_ok h (k + 1) s hf fd zd (by omega) (by omega)
    obtain ⟨q', r', x2, hq', ler', ev2⟩ := lparted_ok h (k + 1) s hg fd zd (by omega) (by omega)
    obtain ⟨_, hgc, y1, y2, zq⟩ := frac_core h fd z m hq hq' x1 ler x2 ler'
    obtain ⟨_, lq⟩ := ln_last hq' zq
    have c1 : evS (Ph (k + 4)) G b__law_fraction [.d false (.int (p : Int)), .d false (po f), .d false (po g), .e, .e, .e, .e] s = evS (Ph (k + 4)) G (.seq (.ifs (.cmp .Eq (.sub (.v 6) (.c (.int 0))) (.c (.int 0))) (.seq (.ret (.c .none)) .nil) .nil) (.seq (.asg (.v 4) (.tup (.cons (.call 35 (.cons (.v 0) (.cons (.sub (.v 6) (.c (.int 0))) .nil))) .nil))) (.seq (.ret (.tup (.cons (.call 34 (.cons (.v 0) (.cons (.v 4) (.cons (.v 5) .nil)))) (.cons (.call 34 (.cons (.v 0) (.cons (.v 4) (.cons (.v 6) .nil)))) .nil)))) .nil)))
        [.d false (.int (p : Int)), .d false (po f), .d false (po g), .d false (po d), .e, .d false (po q), .d false (po q')] s := by
      unfold b__law_fraction
      rw [seq_next (env' := [.d false (.int (p : Int)), .d false (po f), .d false (po g), .e, .e, .e, .e]) (s' := s) (by
        rw [ifs_f (x := (.frz, .bool false)) (s' := s) (cmp_e (v_e rfl) tup0_e (ceq e0)) rfl, ev_nil])]
      rw [seq_next (env' := [.d false (.int (p : Int)), .d false (po f), .d false (po g), .d false (po d), .e, .e, .e]) (s' := s) (asg_e (call3 (x := (.frz, .int (p : Int))) (y := (.frz, po f)) (z := (.frz, po g)) (o := false) (v_e rfl) frzN (v_e rfl) frzN (v_e rfl) frzN ev) rfl)]
      rw [seq_next (env' := [.d false (.int (p : Int)), .d false (po f), .d false (po g), .d false (po d), .e, .d false (po q), .d false (po q')]) (s' := s) (par_e (ea_cons (sub_e (x := (.frz, .tuple [po q, po r])) (y := (.frz, .int 0)) (d := po q) (call3 (x := (.frz, .int (p : Int))) (y := (.frz, po f)) (z := (.frz, po d)) (o := false) (v_e rfl) frzN (v_e rfl) frzN (v_e rfl) frzN ev1) ev_c (Tre.atI_nat [po q, po r] 0)) (ea_cons (sub_e (x := (.frz, .tuple [po q', po r'])) (y := (.frz, .int 0)) (d := po q') (call3 (x := (.frz, .int (p : Int))) (y := (.frz, po g)) (z := (.frz, po d)) (o := false) (v_e rfl) frzN (v_e rfl) frzN (v_e rfl) frzN ev2) ev_c (Tre.atI_nat [po q', po r'] 0)) ea_nil)) rfl)]
      rw [fz_e (env' := [.d false (.int (p : Int)), .d false (po f), .d false (po g), .d false (po d), .e, .d false (po q), .d false (po q')]) rfl]
    by_cases z0 : q'.c 0 = 0
    · refine ⟨none, .odd z hq hq' y1 y2 (hgc.cop h.F zd y1 y2) z0, fun a b q => (nomatch q), st _ ?_⟩
      rw [c1]
      refine congrArg endF (seq_ret (o := false) ?_)
      rw [ifs_t (x := (.frz, .bool true)) (s' := s) (cmp_e (sub_e (x := (.frz, po q')) (v_e rfl) ev_c (sub0_po lq)) ev_c (ceqi (dtr (cf_zero.mpr z0)))) rfl]
      exact seq_ret (o := false) (ret_e (k := .frz) ev_c)
    · have hi := inv_ok h z0
      have hiz : inv (q'.c 0) ≠ 0 := fun y => h.F.ne (by rw [y] at hi; grind)
      have l1 := quot_le h y1 zd hq fd
      have l2 := quot_le h y2 zd hq' fd
      have sc1 := lmul_ok h (k + 2) s (Fs.cst (inv (q'.c 0))) hq (by rw [ln_cst hiz]; omega) (by omega)
      have sc2 := lmul_ok h (k + 2) s (Fs.cst (inv (q'.c 0))) hq' (by rw [ln_cst hiz]; omega) (by omega)
      rw [po_cst hiz] at sc1 sc2
      refine ⟨some (cst (inv (q'.c 0)) * q, cst (inv (q'.c 0)) * q'), FrS.make (y := (0 : _root_.Fin p)) h.F z hq hq' hgc y1 y2 hi, fun a b e => ?_, st _ ?_⟩
      · cases e
        have := ln_min (le_cst (inv (q'.c 0)) (ln_le hq))
        have := ln_min (le_cst (inv (q'.c 0)) (ln_le hq'))
        omega
      · rw [c1]
        rw [seq_next (env' := [.d false (.int (p : Int)), .d false (po f), .d false (po g), .d false (po d), .e, .d false (po q), .d false (po q')]) (s' := s) (by
          rw [ifs_f (x := (.frz, .bool false)) (s' := s) (cmp_e (sub_e (x := (.frz, po q')) (v_e rfl) ev_c (sub0_po lq)) ev_c (ceqi (dfa (cf0_nz z0)))) rfl, ev_nil])]
        rw [seq_next (env' := [.d false (.int (p : Int)), .d false (po f), .d false (po g), .d false (po d), .d false (.tuple [.int ((inv (q'.c 0)).val : Int)]), .d false (po q), .d false (po q')]) (s' := s) (asg_e (tup_e (ea_cons (call2 (x := (.frz, .int (p : Int))) (y := (.frz, .int (cf q' 0))) (o := false) (v_e rfl) frzN (sub_e (x := (.frz, po q')) (v_e rfl) ev_c (sub0_po lq)) frzN (linverse_ok h (k + 3) s z0)) ea_nil) rfl (by rw [sizeL]; show 1 ≤ _; omega)) rfl)]
        exact congrArg endF (seq_ret (o := false) (ret_e (k := .frz) (tup2_e (x := (.frz, po _)) (y := (.frz, po _)) (call3 (x := (.frz, .int (p : Int))) (y := (.frz, .tuple [.int ((inv (q'.c 0)).val : Int)])) (z := (.frz, po q)) (o := false) (v_e rfl) frzN (v_e rfl) frzN (v_e rfl) frzN sc1) frzN (call3 (x := (.frz, .int (p : Int))) (y := (.frz, .tuple [.int ((inv (q'.c 0)).val : Int)])) (z := (.frz, po q')) (o := false) (v_e rfl) frzN (v_e rfl) frzN (v_e rfl) frzN sc2) frzN)))
end
end K10
set_option maxHeartbeats 1000000
/-! K10I: sums, products, ratios of fractions. -/
namespace K10
open PySem PySem.Spec PyProof.Rows L2 Tre PT Pol
section
variable {p : Nat} [NeZero p]
theorem gone : G 0 = some (.tuple [.int 1]) := rfl
theorem gnot : G 1 = some (.tuple [.tuple [], .tuple [.int 1]]) := rfl
section
variable {Φ : Nat → List Tre.Arg → Src → R (Bool × D)} {env : Tre.Env} {s : Src} {i : Nat} {a b : S p}
theorem x0_e (h : env[i]? = some (.d false (fr a b))) : evE Φ G (.sub (.v i) (.c (.int 0))) env s = .ok (.frz, po a) s := sub_e (x := (.frz, fr a b)) (y := (.frz, .int 0)) (v_e h) ev_c (Tre.atI_nat [po a, po b] 0)
theorem x1_e (h : env[i]? = some (.d false (fr a b))) : evE Φ G (.sub (.v i) (.c (.int 1))) env s = .ok (.frz, po b) s := sub_e (x := (.frz, fr a b)) (y := (.frz, .int 1)) (v_e h) ev_c (Tre.atI_nat [po a, po b] 1)
end
theorem frS_red {f g u v : S p} (h : FrS f g (some (u, v))) : Red u v ∧ u * g = v * f ∧ g ≠ 0 := by
  cases h with
  | told hz r e => exact ⟨r, e, hz⟩
theorem red_nz (h : Pr p) {a b : S p} (r : Red a b) : b ≠ 0 := nz0 h.F r.b0
theorem red_ln (h : Pr p) {a b : S p} (r : Red a b) : 0 < ln b := (ln_last r.fb (red_nz h r)).2
theorem red01 (h : Pr p) : Red (0 : S p) 1 := ⟨Fs.zero, Fs.one, by rw [one_c, if_pos rfl], 0, 1, Fs.zero, Fs.one, by grind⟩
theorem red1 (h : Pr p) {f : S p} (hf : Fs f) : Red f 1 := ⟨hf, Fs.one, by rw [one_c, if_pos rfl], 0, 1, Fs.zero, Fs.one, by grind⟩
theorem whole_ok (h : Pr p) (k : Nat) (s : Src) (f : S p) : Ph (k + 1) 16 [.d (po f)] s = .ok (false, fr f 1) s := by
  show endF (evS (Ph k) G b_whole [.d false (po f)] s) = _
  unfold b_whole fr
  rw [po_one h.F]
  exact congrArg endF (seq_ret (o := false) (ret_e (k := .frz) (tup2_e (x := (.frz, po f)) (y := (.frz, .tuple [.int 1])) (v_e rfl) frzN (g_e gone) frzN)))
theorem add_ln {f g : S p} (hf : Fs f) (hg : Fs g) {n : Nat} (h1 : ln f ≤ n) (h2 : ln g ≤ n) : ln (f + g) ≤ n := ln_min (((ln_le hf).mono h1).add ((ln_le hg).mono h2))
theorem mul_ln {f g : S p} (hf : Fs f) (hg : Fs g) : ln (f * g) ≤ ln f + ln g := ln_min (mul_len hf hg)
theorem b0_mul {b d : S p} (h1 : b.c 0 = 1) (h2 : d.c 0 = 1) : (b * d).c 0 = 1 := by
  rw [c0_mul, h1, h2]; grind
theorem sum_ok (h : Pr p) (k : Nat) (s : Src) {a b c d : S p} (r : Red a b) (r' : Red c d) {n : Nat} (hn : n ≤ 200) (l1 : ln a ≤ n) (l2 : ln b ≤ n) (l3 : ln c ≤ n) (l4 : ln d ≤ n) :
    ∃ u v, FrS (a * d + c * b) (b * d) (some (u, v)) ∧ ln u ≤ 2 * n ∧ ln v ≤ 2 * n ∧ Ph (k + 5) 17 [.d (.int (p : Int)), .d (fr a b), .d (fr c d)] s = .ok (false, fr u v) s := by
  have st : ∀ X, endF (evS (Ph (k + 4)) G b_sum_of [.d false (.int (p : Int)), .d false (fr a b), .d false (fr c d)] s) = X → Ph (k + 5) 17 [.d (.int (p : Int)), .d (fr a b), .d (fr c d)] s = X := fun X h => h
  have zb := red_nz h r
  have zd := red_nz h r'
  obtain ⟨w, e1, i1⟩ := eqF_po r.fb r'.fb
  by_cases hbd : b = d
  · rw [i1.mpr hbd] at e1
    have hs := add_ln r.fa r'.fa l1 l3
    have ad := added_ok h (k + 2) s r.fa r'.fa
    obtain ⟨w2, e2, i2⟩ := eqF_po1 h.F r.fb
    have key : ∀ o, FrS (a + c) b o → FrS (a * d + c * b) (b * d) o := fun o x => by
      have := x.times h.F zb
      rw [← hbd, show a * b + c * b = (a + c) * b by grind]
      exact this
    by_cases h1 : b = 1
    · rw [i2.mpr h1] at e2
      refine ⟨a + c, 1, key _ ?_, by omega, by rw [ln_one h.F]; have := red_ln h r; omega, st _ ?_⟩
      · rw [h1]
        exact FrS.red h.F (red1 h (r.fa.add r'.fa))
      · unfold b_sum_of
        refine congrArg endF (seq_ret (o := false) ?_)
        rw [ifs_t (x := (.frz, .bool true)) (s' := s) (cmp_e (x1_e rfl) (x1_e rfl) (ceq e1)) rfl]
        refine seq_ret (o := false) (ret_e (k := .frz) ?_)
        rw [ife_f (x := (.frz, .bool false)) (cmp_e (x1_e rfl) (g_e gone) (cne e2)) rfl]
        exact call1 (x := (.frz, po (a + c))) (o := false) (call3 (x := (.frz, .int (p : Int))) (y := (.frz, po a)) (z := (.frz, po c)) (o := false) (v_e rfl) frzN (x0_e rfl) frzN (x0_e rfl) frzN ad) frzN (whole_ok h (k + 3) s _)
    · rw [bfalse i2 h1] at e2
      obtain ⟨o, fo, lo, ev⟩ := fraction_ok h k s (r.fa.add r'.fa) r.fb (by omega) (by omega)
      obtain ⟨u, v, rfl, ru, _⟩ := fo.fit1 h.F r.b0
      obtain ⟨q1, q2⟩ := lo u v rfl
      refine ⟨u, v, key _ fo, by omega, by omega, st _ ?_⟩
      unfold b_sum_of
      refine congrArg endF (seq_ret (o := false) ?_)
      rw [ifs_t (x := (.frz, .bool true)) (s' := s) (cmp_e (x1_e rfl) (x1_e rfl) (ceq e1)) rfl]
      refine seq_ret (o := false) (ret_e (k := .frz) ?_)
      rw [ife_t (x := (.frz, .bool true)) (cmp_e (x1_e rfl) (g_e gone) (cne e2)) rfl]
      exact call3 (x := (.frz, .int (p : Int))) (y := (.frz, po (a + c))) (z := (.frz, po b)) (o := false) (v_e rfl) frzN (call3 (x := (.frz, .int (p : Int))) (y := (.frz, po a)) (z := (.frz, po c)) (o := false) (v_e rfl) frzN (x0_e rfl) frzN (x0_e rfl) frzN ad) frzN (x1_e rfl) frzN ev
  · rw [bfalse i1 hbd] at e1
    have m1 := times_ok h (k + 2) s r.fa r'.fb (by omega) (by omega)
    have m2 := times_ok h (k + 2) s r'.fa r.fb (by omega) (by omega)
    have m3 := times_ok h (k + 2) s r.fb r'.fb (by omega) (by omega)
    have f1 := r.fa.mul r'.fb
    have f2 := r'.fa.mul r.fb
    have f3 := r.fb.mul r'.fb
    have ad := added_ok h (k + 2) s f1 f2
    have q1 := mul_ln r.fa r'.fb
    have q2 := mul_ln r'.fa r.fb
    have q3 := mul_ln r.fb r'.fb
    have q4 := add_ln f1 f2 (n := 2 * n) (by omega) (by omega)
    obtain ⟨o, fo, lo, ev⟩ := fraction_ok h k s (f1.add f2) f3 (by omega) (by omega)
    obtain ⟨u, v, rfl, ru, _⟩ := fo.fit1 h.F (b0_mul r.b0 r'.b0)
    obtain ⟨q5, q6⟩ := lo u v rfl
    refine ⟨u, v, fo, by omega, by omega, st _ ?_⟩
    unfold b_sum_of
    rw [seq_next (env' := [.d false (.int (p : Int)), .d false (fr a b), .d false (fr c d)]) (s' := s) (by
      rw [ifs_f (x := (.frz, .bool false)) (s' := s) (cmp_e (x1_e rfl) (x1_e rfl) (ceq e1)) rfl, ev_nil])]
    refine congrArg endF (seq_ret (o := false) (ret_e (k := .frz) ?_))
    exact call3 (x := (.frz, .int (p : Int))) (y := (.frz, po (a * d + c * b))) (z := (.frz, po (b * d))) (o := false) (v_e rfl) frzN (call3 (x := (.frz, .int (p : Int))) (y := (.frz, po (a * d))) (z := (.frz, po (c * b))) (o := false) (v_e rfl) frzN
      (call3 (x := (.frz, .int (p : Int))) (y := (.frz, po a)) (z := (.frz, po d)) (o := false) (v_e rfl) frzN (x0_e rfl) frzN (x1_e rfl) frzN m1) frzN (call3 (x := (.frz, .int (p : Int))) (y := (.frz, po c)) (z := (.frz, po b)) (o := false) (v_e rfl) frzN (x0_e rfl) frzN (x1_e rfl) frzN m2) frzN ad) frzN
      (call3 (x := (.frz, .int (p : Int))) (y := (.frz, po b)) (z := (.frz, po d)) (o := false) (v_e rfl) frzN (x1_e rfl) frzN (x1_e rfl) frzN m3) frzN ev
theorem cst_mm (x y : Fin p) (f : S p) : cst x * (cst y * f) = cst (x * y) * f := by
  refine Ser.ext (funext fun n => ?_)
  rw [cst_c', cst_c', cst_c']
  grind
theorem multiple_ok (h : Pr p) (k : Nat) (s : Src) (c : Int) {a b : S p} (r : Red a b) (l1 : ln a ≤ 1000) (l2 : ln b ≤ 1000) :
    ∃ u v, FrS (cst (fi p c) * a) b (some (u, v)) ∧ ln u ≤ ln a ∧ ln v ≤ ln b ∧ Ph (k + 3) 18 [.d (.int (p : Int)), .d (.int c), .d (fr a b)] s = .ok (false, fr u v) s := by
  have st : ∀ X, endF (evS (Ph (k + 2)) G b_multiple [.d false (.int (p : Int)), .d false (.int c), .d false (fr a b), .e] s) = X → Ph (k + 3) 18 [.d (.int (p : Int)), .d (.int c), .d (fr a b)] s = X := fun X h => h
  have sc := scaled_ok h k s c r.fa (by omega)
  have zb := red_nz h r
  have lb := red_ln h r
  have ft := fs_cst (fi p c) r.fa
  have lt := ln_min (le_cst (fi p c) (ln_le r.fa))
  obtain ⟨w, e1, i1⟩ := eqF_po0 ft
  have go : evS (Ph (k + 2)) G b_multiple [.d false (.int (p : Int)), .d false (.int c), .d false (fr a b), .e] s = evS (Ph (k + 2)) G (.seq (.ret (.ife (.cmp .NotEq (.v 3) (.tup .nil)) (.tup (.cons (.v 3) (.cons (.sub (.v 2) (.c (.int 1))) .nil))) (.g 1))) .nil) [.d false (.int (p : Int)), .d false (.int c), .d false (fr a b), .d false (po (cst (fi p c) * a))] s := by
    unfold b_multiple
    rw [seq_next (env' := [.d false (.int (p : Int)), .d false (.int c), .d false (fr a b), .d false (po (cst (fi p c) * a))]) (s' := s) (asg_e (call3 (x := (.frz, .int (p : Int))) (y := (.frz, .int c)) (z := (.frz, po a)) (o := false) (v_e rfl) frzN (v_e rfl) frzN (x0_e rfl) frzN sc) rfl)]
  by_cases z : cst (fi p c) * a = 0
  · rw [i1.mpr z] at e1
    refine ⟨0, 1, ?_, by rw [(ln_zero Fs.zero).mpr rfl]; omega, by rw [ln_one h.F]; omega, st _ ?_⟩
    · rw [z]
      exact .told zb (red01 h) (by grind)
    · rw [go]
      refine congrArg endF (seq_ret (o := false) (ret_e (k := .frz) ?_))
      rw [ife_f (x := (.frz, .bool false)) (cmp_e (v_e rfl) tup0_e (cne e1)) rfl]
      unfold fr
      rw [po_zero, po_one h.F]
      exact g_e gnot
  · rw [bfalse i1 z] at e1
    have hc : fi p c ≠ 0 := fun y => z (by rw [y, cst_zero])
    have hi := inv_ok h hc
    refine ⟨cst (fi p c) * a, b, FrS.red h.F ⟨ft, r.fb, r.b0, ?_⟩, by omega, Nat.le_refl _, st _ ?_⟩
    · obtain ⟨u, v, hu, hv, e⟩ := r.cop
      refine ⟨cst (inv (fi p c)) * u, v, fs_cst _ hu, hv, ?_⟩
      have : cst (inv (fi p c)) * u * (cst (fi p c) * a) = u * a := by
        rw [show cst (inv (fi p c)) * u * (cst (fi p c) * a) = cst (inv (fi p c)) * (cst (fi p c) * (u * a)) by grind, cst_mm, show inv (fi p c) * fi p c = 1 by grind, cst_one]
      rw [this]
      exact e
    · rw [go]
      refine congrArg endF (seq_ret (o := false) (ret_e (k := .frz) ?_))
      rw [ife_t (x := (.frz, .bool true)) (cmp_e (v_e rfl) tup0_e (cne e1)) rfl]
      exact tup2_e (x := (.frz, po (cst (fi p c) * a))) (y := (.frz, po b)) (v_e rfl) frzN (x1_e rfl) frzN
theorem difference_ok (h : Pr p) (k : Nat) (s : Src) {a b c d : S p} (r : Red a b) (r' : Red c d) {n : Nat} (hn : n ≤ 200) (l1 : ln a ≤ n) (l2 : ln b ≤ n) (l3 : ln c ≤ n) (l4 : ln d ≤ n) :
    ∃ u v, (∀ o, FrS (a * d - c * b) (b * d) o → o = some (u, v)) ∧ Ph (k + 6) 19 [.d (.int (p : Int)), .d (fr a b), .d (fr c d)] s = .ok (false, fr u v) s := by
  obtain ⟨c', d', f1, q1, q2, e1⟩ := multiple_ok h (k + 2) s ((p : Int) - 1) r' (by omega) (by omega)
  obtain ⟨r1, x1, _⟩ := frS_red f1
  rw [neg1 h, cst_neg1] at x1
  obtain ⟨u, v, f2, q3, q4, e2⟩ := sum_ok h k s r r1 hn l1 l2 (by omega) (by omega)
  refine ⟨u, v, fun o fo => ?_, ?_⟩
  · have zd' := red_nz h r1
    have zd := red_nz h r'
    have y1 := fo.times h.F zd'
    have y2 := f2.times h.F zd
    have e3 : (a * d' + c' * b) * d = (a * d - c * b) * d' := by grind
    have e4 : b * d' * d = b * d * d' := by grind
    rw [e3, e4] at y2
    exact y1.uniq h.F y2
  · show endF (evS (Ph (k + 5)) G b_difference [.d false (.int (p : Int)), .d false (fr a b), .d false (fr c d)] s) = _
    unfold b_difference
    exact congrArg endF (seq_ret (o := false) (ret_e (k := .frz) (call3 (x := (.frz, .int (p : Int))) (y := (.frz, fr a b)) (z := (.frz, fr c' d')) (o := false) (v_e rfl) frzN (v_e rfl) frzN (call3 (x := (.frz, .int (p : Int))) (y := (.frz, .int ((p : Int) - 1))) (z := (.frz, fr c d)) (o := false) (v_e rfl) frzN (op_e (v_e rfl) ev_c (os _ _)) frzN (v_e rfl) frzN e1) frzN e2)))
theorem product_ok (h : Pr p) (k : Nat) (s : Src) {a b c d : S p} (r : Red a b) (r' : Red c d) {n : Nat} (hn : n ≤ 200) (l1 : ln a ≤ n) (l2 : ln b ≤ n) (l3 : ln c ≤ n) (l4 : ln d ≤ n) :
    ∃ u v, FrS (a * c) (b * d) (some (u, v)) ∧ ln u ≤ 2 * n ∧ ln v ≤ 2 * n ∧ Ph (k + 5) 20 [.d (.int (p : Int)), .d (fr a b), .d (fr c d)] s = .ok (false, fr u v) s := by
  have st : ∀ X, endF (evS (Ph (k + 4)) G b_product [.d false (.int (p : Int)), .d false (fr a b), .d false (fr c d), .e, .e] s) = X → Ph (k + 5) 20 [.d (.int (p : Int)), .d (fr a b), .d (fr c d)] s = X := fun X h => h
  have zb := red_nz h r
  have zd := red_nz h r'
  have lb := red_ln h r
  obtain ⟨w1, e1, i1⟩ := eqF_po0 r.fa
  obtain ⟨w2, e2, i2⟩ := eqF_po0 r'.fa
  by_cases hz : a = 0 ∨ c = 0
  · have hac : a * c = 0 := by rcases hz with z | z <;> rw [z] <;> grind
    refine ⟨0, 1, ?_, by rw [(ln_zero Fs.zero).mpr rfl]; omega, by rw [ln_one h.F]; omega, st _ ?_⟩
    · rw [hac]
      exact .told (ser_nz h.F zb zd) (red01 h) (by grind)
    · unfold b_product
      refine congrArg endF (seq_ret (o := false) ?_)
      have hc : evE (Ph (k + 4)) G (.or (.cmp .Eq (.sub (.v 1) (.c (.int 0))) (.tup .nil)) (.cmp .Eq (.sub (.v 2) (.c (.int 0))) (.tup .nil))) [.d false (.int (p : Int)), .d false (fr a b), .d false (fr c d), .e, .e] s = .ok (.frz, .bool true) s := by
        by_cases z : a = 0
        · rw [i1.mpr z] at e1
          exact or_t (x := (.frz, .bool true)) (cmp_e (x0_e rfl) tup0_e (ceq e1)) rfl
        · rw [bfalse i1 z] at e1
          rw [i2.mpr (hz.resolve_left z)] at e2
          rw [or_f (x := (.frz, .bool false)) (cmp_e (x0_e rfl) tup0_e (ceq e1)) rfl]
          exact cmp_e (x0_e rfl) tup0_e (ceq e2)
      rw [ifs_t hc rfl]
      refine seq_ret (o := false) (ret_e (k := .frz) ?_)
      unfold fr
      rw [po_zero, po_one h.F]
      exact g_e gnot
  · have za : a ≠ 0 := fun z => hz (.inl z)
    have zc : c ≠ 0 := fun z => hz (.inr z)
    rw [bfalse i1 za] at e1
    rw [bfalse i2 zc] at e2
    have m1 := times_ok h (k + 2) s r.fa r'.fa (by omega) (by omega)
    have m3 := times_ok h (k + 2) s r.fb r'.fb (by omega) (by omega)
    have f1 := r.fa.mul r'.fa
    have f3 := r.fb.mul r'.fb
    have q1 := mul_ln r.fa r'.fa
    have q3 := mul_ln r.fb r'.fb
    obtain ⟨w3, e3, i3⟩ := eqF_po1 h.F f3
    have go : evS (Ph (k + 4)) G b_product [.d false (.int (p : Int)), .d false (fr a b), .d false (fr c d), .e, .e] s = evS (Ph (k + 4)) G (.seq (.ret (.ife (.cmp .NotEq (.v 4) (.g 0)) (.call 15 (.cons (.v 0) (.cons (.v 3) (.cons (.v 4) .nil)))) (.call 16 (.cons (.v 3) .nil)))) .nil) [.d false (.int (p : Int)), .d false (fr a b), .d false (fr c d), .d false (po (a * c)), .d false (po (b * d))] s := by
      unfold b_product
      rw [seq_next (env' := [.d false (.int (p : Int)), .d false (fr a b), .d false (fr c d), .e, .e]) (s' := s) (by
        rw [ifs_f (x := (.frz, .bool false)) (s' := s) ?_ rfl, ev_nil]
        rw [or_f (x := (.frz, .bool false)) (cmp_e (x0_e rfl) tup0_e (ceq e1)) rfl]
        exact cmp_e (x0_e rfl) tup0_e (ceq e2))]
      rw [seq_next (env' := [.d false (.int (p : Int)), .d false (fr a b), .d false (fr c d), .d false (po (a * c)), .d false (po (b * d))]) (s' := s) (par_e (ea_cons (call3 (x := (.frz, .int (p : Int))) (y := (.frz, po a)) (z := (.frz, po c)) (o := false) (v_e rfl) frzN (x0_e rfl) frzN (x0_e rfl) frzN m1) (ea_cons (call3 (x := (.frz, .int (p : Int))) (y := (.frz, po b)) (z := (.frz, po d)) (o := false) (v_e rfl) frzN (x1_e rfl) frzN (x1_e rfl) frzN m3) ea_nil)) rfl)]
      rw [fz_e (env' := [.d false (.int (p : Int)), .d false (fr a b), .d false (fr c d), .d false (po (a * c)), .d false (po (b * d))]) rfl]
    by_cases h1 : b * d = 1
    · rw [i3.mpr h1] at e3
      refine ⟨a * c, 1, ?_, by omega, by rw [ln_one h.F]; omega, st _ ?_⟩
      · rw [h1]
        exact FrS.red h.F (red1 h f1)
      · rw [go]
        refine congrArg endF (seq_ret (o := false) (ret_e (k := .frz) ?_))
        rw [ife_f (x := (.frz, .bool false)) (cmp_e (v_e rfl) (g_e gone) (cne e3)) rfl]
        exact call1 (x := (.frz, po (a * c))) (o := false) (v_e rfl) frzN (whole_ok h (k + 3) s _)
    · rw [bfalse i3 h1] at e3
      obtain ⟨o, fo, lo, ev⟩ := fraction_ok h k s f1 f3 (by omega) (by omega)
      obtain ⟨u, v, rfl, ru, _⟩ := fo.fit1 h.F (b0_mul r.b0 r'.b0)
      obtain ⟨q5, q6⟩ := lo u v rfl
      refine ⟨u, v, fo, by omega, by omega, st _ ?_⟩
      rw [go]
      refine congrArg endF (seq_ret (o := false) (ret_e (k := .frz) ?_))
      rw [ife_t (x := (.frz, .bool true)) (cmp_e (v_e rfl) (g_e gone) (cne e3)) rfl]
      exact call3 (x := (.frz, .int (p : Int))) (y := (.frz, po (a * c))) (z := (.frz, po (b * d))) (o := false) (v_e rfl) frzN (v_e rfl) frzN (v_e rfl) frzN ev
theorem call_frX {Φ : Nat → List Tre.Arg → Src → R (Bool × D)} {Gg : Nat → Option D} {x y z : T} {env : Tre.Env} {s : Src} {vx vy vz : Kd × D} {f : Nat} {o : Option (S p × S p)} (h1 : evE Φ Gg x env s = .ok vx s) (k1 : vx.1 ≠ .peek) (h2 : evE Φ Gg y env s = .ok vy s) (k2 : vy.1 ≠ .peek) (h3 : evE Φ Gg z env s = .ok vz s) (k3 : vz.1 ≠ .peek)
    (h : Φ f [.d vx.2, .d vy.2, .d vz.2] s = frX o s) : endF (evS Φ Gg (.seq (.ret (.call f (.cons x (.cons y (.cons z .nil))))) .nil) env s) = frX o s := by
  cases o with
  | none =>
    refine congrArg endF (a₂ := .exc 0 [] s) (seq_exc ?_)
    simp only [evS, evE, evG, h1, h2, h3, R.bind_ok, if_neg k1, if_neg k2, if_neg k3, h, frX, R.bind_exc]
  | some ab =>
    obtain ⟨a, b⟩ := ab
    exact congrArg endF (seq_ret (o := false) (ret_e (k := .frz) (call3 (o := false) h1 k1 h2 k2 h3 k3 h)))
theorem ratio_ok (h : Pr p) (k : Nat) (s : Src) {a b c d : S p} (r : Red a b) (r' : Red c d) {n : Nat} (hn : n ≤ 200) (l1 : ln a ≤ n) (l2 : ln b ≤ n) (l3 : ln c ≤ n) (l4 : ln d ≤ n) :
    ∃ o, FrS (a * d) (b * c) o ∧ (∀ u v, o = some (u, v) → ln u ≤ 2 * n ∧ ln v ≤ 2 * n) ∧ Ph (k + 5) 23 [.d (.int (p : Int)), .d (fr a b), .d (fr c d)] s = frX o s := by
  have m1 := times_ok h (k + 2) s r.fa r'.fb (by omega) (by omega)
  have m3 := times_ok h (k + 2) s r.fb r'.fa (by omega) (by omega)
  have q1 := mul_ln r.fa r'.fb
  have q3 := mul_ln r.fb r'.fa
  obtain ⟨o, fo, lo, ev⟩ := fraction_ok h k s (r.fa.mul r'.fb) (r.fb.mul r'.fa) (by omega) (by omega)
  refine ⟨o, fo, fun u v e => by have := lo u v e; omega, ?_⟩
  show endF (evS (Ph (k + 4)) G b_ratio [.d false (.int (p : Int)), .d false (fr a b), .d false (fr c d)] s) = _
  unfold b_ratio
  exact call_frX (vx := (.frz, .int (p : Int))) (vy := (.frz, po (a * d))) (vz := (.frz, po (b * c))) (v_e rfl) frzN (call3 (x := (.frz, .int (p : Int))) (y := (.frz, po a)) (z := (.frz, po d)) (o := false) (v_e rfl) frzN (x0_e rfl) frzN (x1_e rfl) frzN m1) frzN (call3 (x := (.frz, .int (p : Int))) (y := (.frz, po b)) (z := (.frz, po c)) (o := false) (v_e rfl) frzN (x1_e rfl) frzN (x0_e rfl) frzN m3) frzN ev
theorem one_over_ok (h : Pr p) (k : Nat) (s : Src) {a b : S p} (r : Red a b) (l1 : ln a ≤ 1000) (l2 : ln b ≤ 1000) :
    ∃ o, FrS b a o ∧ (∀ u v, o = some (u, v) → ln u ≤ ln b ∧ ln v ≤ ln a) ∧ Ph (k + 5) 27 [.d (.int (p : Int)), .d (fr a b)] s = frX o s := by
  obtain ⟨o, fo, lo, ev⟩ := fraction_ok h k s r.fb r.fa (by omega) (by omega)
  refine ⟨o, fo, lo, ?_⟩
  show endF (evS (Ph (k + 4)) G b_one_over [.d false (.int (p : Int)), .d false (fr a b)] s) = _
  unfold b_one_over
  exact call_frX (vx := (.frz, .int (p : Int))) (vy := (.frz, po b)) (vz := (.frz, po a)) (v_e rfl) frzN (x1_e rfl) frzN (x0_e rfl) frzN ev
end
end K10
set_option maxHeartbeats 1000000
/-! K10J: powers, later ones, numbers. -/
namespace K10
open PySem PySem.Spec PyProof.Rows L2 Tre PT Pol
section
variable {p : Nat} [NeZero p]
/-! ### powers -/
def isNz : D → Bool
  | .tuple [_, .int n] => !decide (n = 0)
  | _ => false
def fstD : D → D
  | .tuple [x, _] => x
  | x => x
def pwD : Option Nat → D
  | some v => .int (v : Nat)
  | none => .none
theorem pw_list : ∀ (xs : List Int) (j : Nat), ((∀ x ∈ xs, x = 0) ∧ ((enuD j (xs.map PyData.int)).filter isNz).map fstD = []) ∨ ∃ v r, (∃ x, xs[v]? = some x ∧ x ≠ 0) ∧ (∀ i, i < v → xs[i]? = some 0) ∧ ((enuD j (xs.map PyData.int)).filter isNz).map fstD = .int ((j + v : Nat) : Int) :: r
  | [], _ => .inl ⟨fun x hx => absurd hx List.not_mem_nil, rfl⟩
  | x :: xs, j => by
    have e : enuD j ((x :: xs).map PyData.int) = .tuple [.int (j : Nat), .int x] :: enuD (j + 1) (xs.map PyData.int) := rfl
    rw [e]
    by_cases hx : x = 0
    · have hn : isNz (.tuple [.int (j : Nat), .int x]) = false := by show (!decide (x = 0)) = false; rw [dtr hx]; rfl
      rw [List.filter_cons_of_neg (by rw [hn]; exact Bool.false_ne_true)]
      rcases pw_list xs (j + 1) with ⟨h1, h2⟩ | ⟨v, r, h1, h2, h3⟩
      · exact .inl ⟨fun y hy => by rcases List.mem_cons.mp hy with rfl | hy; exact hx; exact h1 y hy, h2⟩
      · refine .inr ⟨v + 1, r, h1, fun i hi => ?_, by rw [h3, show j + 1 + v = j + (v + 1) by omega]⟩
        cases i with
        | zero => rw [List.getElem?_cons_zero, hx]
        | succ i => rw [List.getElem?_cons_succ]; exact h2 i (by omega)
    · have hn : isNz (.tuple [.int (j : Nat), .int x]) = true := by show (!decide (x = 0)) = true; rw [dfa hx]; rfl
      rw [List.filter_cons_of_pos hn]
      exact .inr ⟨0, _, ⟨x, rfl, hx⟩, fun i hi => absurd hi (Nat.not_lt_zero _), rfl⟩
/-- o is f's power -/
def Pw (f : S p) : Option Nat → Prop
  | some v => Val f v
  | none => f = 0
theorem pw_gen {Φ : Nat → List Tre.Arg → Src → R (Bool × D)} {Gg : Nat → Option D} (s : Src) {f : S p} (hf : Fs f) (hl : ln f ≤ 10000) : ∃ o, Pw f o ∧ endF (evS Φ Gg b_power_of [.d false (po f), .e, .e, .e] s) = .ok (false, pwD o) s := by
  unfold b_power_of
  have lc := lc_gen (Φ := Φ) (Gg := Gg) (tg := .tup (.cons (.v 2) (.cons (.v 3) .nil))) (it := .enu (.v 0)) (cond := .cmp .NotEq (.v 3) (.c (.int 0))) (elt := .v 2) (ws := [2, 3]) (env := [.d false (po f), .e, .e, .e]) (s := s) (s1 := s) (pk := false) (xs := enuD 0 (dt (ln f) (cf f))) (p := isNz) (g := fstD)
    (enu_e (v_e rfl) (.inl rfl) frzN) (by rw [enu_len, dt_len, sizeL]; omega) (fun x hx => by
      obtain ⟨i, hi⟩ := List.mem_iff_getElem?.mp hx
      have hlt := dt_ltenu hi
      rw [dt_enu hlt] at hi
      cases hi
      exact ⟨[.d false (po f), .e, .d false (.int (i : Nat)), .d false (.int (cf f i))], rfl, ⟨.frz, cmp_e (v_e rfl) ev_c (cnei rfl)⟩, fun _ => ⟨.frz, frzN, v_e rfl⟩⟩)
  have e : dt (ln f) (cf f) = ((List.range (ln f)).map (cf f)).map PyData.int := by unfold dt; rw [List.map_map]; rfl
  have hk := pw_list ((List.range (ln f)).map (cf f)) 0
  rw [← e] at hk
  rcases hk with ⟨h1, h2⟩ | ⟨v, r, ⟨x, h1, h3⟩, h4, h5⟩
  · rw [h2] at lc
    refine ⟨none, ?_, ?_⟩
    · refine Ser.ext (funext fun i => ?_)
      rw [zero_c]
      by_cases hi : i < ln f
      · exact cf_zero.mp (h1 _ (List.mem_map.mpr ⟨i, List.mem_range.mpr hi, rfl⟩))
      · exact ln_le hf i (by omega)
    · rw [seq_next (env' := [.d false (po f), .d false (.list []), .e, .e]) (s' := s) (asg_e lc rfl)]
      refine congrArg endF (seq_ret (o := false) (ret_e (k := .frz) ?_))
      rw [ife_f (x := (.frz, .bool false)) (cmp_e (v_e rfl) (lst_e ea_nil rfl (Nat.zero_le _)) (cne (eqF_nil []))) rfl]
      exact ev_c
  · rw [h5] at lc
    have hv : v < ln f := by
      have := (List.getElem?_eq_some_iff.mp h1).1
      rw [List.length_map, List.length_range] at this
      exact this
    rw [List.getElem?_map, List.getElem?_range hv] at h1
    have h1 : cf f v = x := Option.some.inj h1
    refine ⟨some v, ⟨fun z => h3 (by rw [← h1]; exact cf_zero.mpr z), fun i hi => ?_⟩, ?_⟩
    · have := h4 i hi
      rw [List.getElem?_map, List.getElem?_range (by omega)] at this
      exact cf_zero.mp (Option.some.inj this)
    · rw [seq_next (env' := [.d false (po f), .d false (.list (.int ((0 + v : Nat) : Int) :: r)), .e, .e]) (s' := s) (asg_e lc rfl)]
      refine congrArg endF (seq_ret (o := false) (ret_e (k := .frz) ?_))
      rw [ife_t (x := (.frz, .bool true)) (cmp_e (v_e rfl) (lst_e ea_nil rfl (Nat.zero_le _)) (cne (eqF_nil _))) rfl]
      refine sub_e (x := (.frz, .list (.int ((0 + v : Nat) : Int) :: r))) (y := (.frz, .int 0)) (v_e rfl) ev_c ?_
      rw [Nat.zero_add]
      exact Tre.atI_nat (.int ((v : Nat) : Int) :: r) 0
theorem power_of_ok (k : Nat) (s : Src) {f : S p} (hf : Fs f) (hl : ln f ≤ 10000) : ∃ o, Pw f o ∧ Ph (k + 1) 9 [.d (po f)] s = .ok (false, pwD o) s := pw_gen s hf hl
theorem lpower_ok (k : Nat) (s : Src) {f : S p} (hf : Fs f) (hl : ln f ≤ 10000) : ∃ o, Pw f o ∧ Ph (k + 1) 42 [.d (po f)] s = .ok (false, pwD o) s := pw_gen s hf hl
theorem Pw.uniq {f : S p} {o o' : Option Nat} (h : Pw f o) (h' : Pw f o') : o = o' := by
  cases o with
  | none =>
    cases o' with
    | none => rfl
    | some v => exact absurd h (Val.nz h')
  | some v =>
    cases o' with
    | none => exact absurd h' (Val.nz h)
    | some w => rw [Val.uniq h h']
theorem power_ok (h : Pr p) (k : Nat) (s : Src) {a b : S p} (hf : Fs a) (hl : ln a ≤ 10000) : ∃ o, Pw a o ∧ Ph (k + 2) 21 [.d (fr a b)] s = .ok (false, pwD o) s := by
  obtain ⟨o, ho, e⟩ := power_of_ok k s hf hl
  refine ⟨o, ho, ?_⟩
  show endF (evS (Ph (k + 1)) G b_power [.d false (fr a b)] s) = _
  unfold b_power
  exact congrArg endF (seq_ret (o := false) (ret_e (k := .frz) (call1 (x := (.frz, po a)) (o := false) (x0_e rfl) frzN e)))
/-! ### later -/
theorem zp_zero (k : Nat) : zp k * (0 : S p) = 0 := by grind
theorem sh_e {Φ : Nat → List Tre.Arg → Src → R (Bool × D)} {Gg : Nat → Option D} {a b : T} {env : Tre.Env} {s : Src} {f : S p} {m : Nat} (hf : Fs f) (hl : ln f ≤ 10000) (hm : m ≤ 1000) (e1 : evE Φ Gg a env s = .ok (.frz, po f) s) (e2 : evE Φ Gg b env s = .ok (.frz, .int (m : Nat)) s) :
    evE Φ Gg (.ife (.cmp .NotEq a (.tup .nil)) (.op .Add (.op .Mult (.tup (.cons (.c (.int 0)) .nil)) b) a) (.tup .nil)) env s = .ok (.frz, po (zp m * f)) s := by
  obtain ⟨w, e, i⟩ := eqF_po0 hf
  by_cases z : f = 0
  · rw [i.mpr z] at e
    rw [ife_f (x := (.frz, .bool false)) (cmp_e e1 tup0_e (cne e)) rfl, z, zp_zero, po_zero]
    exact tup0_e
  · rw [bfalse i z] at e
    rw [ife_t (x := (.frz, .bool true)) (cmp_e e1 tup0_e (cne e)) rfl]
    exact op_e (op_e (tup_e (ea_cons ev_c ea_nil) rfl (by rw [sizeL]; show 1 ≤ _; omega)) e2 (rep0T rfl hm)) e1 (shift_e hf z (by omega))
theorem shifted_ok (k : Nat) (s : Src) {f : S p} {m : Nat} (hf : Fs f) (hl : ln f ≤ 10000) (hm : m ≤ 1000) : Ph (k + 1) 10 [.d (po f), .d (.int (m : Nat))] s = .ok (false, po (zp m * f)) s := by
  show endF (evS (Ph k) G b_shifted [.d false (po f), .d false (.int (m : Nat))] s) = _
  unfold b_shifted
  exact congrArg endF (seq_ret (o := false) (ret_e (k := .frz) (sh_e hf hl hm (v_e rfl) (v_e rfl))))
theorem delayed_ok (k : Nat) (s : Src) {a b : S p} {m : Nat} (hf : Fs a) (hl : ln a ≤ 10000) (hm : m ≤ 1000) : Ph (k + 2) 22 [.d (fr a b), .d (.int (m : Nat))] s = .ok (false, fr (zp m * a) b) s := by
  show endF (evS (Ph (k + 1)) G b_delayed [.d false (fr a b), .d false (.int (m : Nat))] s) = _
  unfold b_delayed
  exact congrArg endF (seq_ret (o := false) (ret_e (k := .frz) (tup2_e (x := (.frz, po (zp m * a))) (y := (.frz, po b)) (call2 (x := (.frz, po a)) (y := (.frz, .int (m : Nat))) (o := false) (x0_e rfl) frzN (v_e rfl) frzN (shifted_ok k s hf hl hm)) frzN (x1_e rfl) frzN)))
/-- the powers below a number -/
def lw (m : Nat) (f : S p) : S p := ⟨fun i => if i < m then f.c i else 0⟩
theorem lw_c (m : Nat) (f : S p) (i : Nat) : (lw m f).c i = if i < m then f.c i else 0 := rfl
theorem lw_le (m : Nat) (f : S p) : Le (lw m f) m := fun i hi => by rw [lw_c, if_neg (by omega)]
theorem lw_cf {m : Nat} {f : S p} {i : Nat} (h : i < m) : cf f i = cf (lw m f) i := by
  unfold cf
  rw [lw_c, if_pos h]
theorem lw_le2 {m n : Nat} {f : S p} (h : Le f n) : Le (lw m f) (min m n) := fun i hi => by
  rw [lw_c]
  by_cases q : i < m
  · rw [if_pos q, h i (by omega)]
  · rw [if_neg q]
theorem first_ok (k : Nat) (s : Src) {f : S p} (m : Nat) (hf : Fs f) : Ph (k + 2) 11 [.d (po f), .d (.int (m : Nat))] s = .ok (false, po (lw m f)) s := by
  show endF (evS (Ph (k + 1)) G b_first_of [.d false (po f), .d false (.int (m : Nat))] s) = _
  unfold b_first_of
  have tr := trimmed_po (p := p) k s (row := .tuple (dt (min m (ln f)) (cf f))) (N := min m (ln f)) (h := lw m f) (.inr rfl) (lw_le2 (ln_le hf)) (fun i hi => lw_cf (by omega))
  rw [← dt_take] at tr
  exact congrArg endF (seq_ret (o := false) (ret_e (k := .frz) (call1 (x := (.frz, .tuple _)) (o := false) (slh_e (k := .frz) (v_e rfl) (v_e rfl) rfl) frzN tr)))
end
/-! ### rows of fractions -/
section
variable {p : Nat} [NeZero p]
/-- the row's first numbers -/
def rowN (a b : Nat → Fin p) : Nat → List (Fin p)
  | 0 => []
  | n + 1 => rowN a b n ++ [a n - PT.part (fun i => b (i + 1)) (fun i => (rowN a b n).getD i 0) n (n - 1)]
theorem rowN_len (a b : Nat → Fin p) : ∀ n, (rowN a b n).length = n
  | 0 => rfl
  | n + 1 => by rw [rowN, List.length_append, rowN_len a b n]; rfl
def rowS (a b : S p) : S p := ⟨fun n => (rowN a.c b.c (n + 1)).getD n 0⟩
theorem rowN_get (a b : Nat → Fin p) : ∀ (n i : Nat), i < n → (rowN a b n).getD i 0 = (rowN a b (i + 1)).getD i 0
  | n + 1, i, h => by
    by_cases e : i = n
    · rw [e]
    · rw [← rowN_get a b n i (by omega), rowN, List.getD_eq_getElem?_getD, List.getD_eq_getElem?_getD, List.getElem?_append_left (by rw [rowN_len]; omega)]
theorem part_congr {R : Type _} [Lean.Grind.CommRing R] {f f' g g' : Nat → R} : ∀ (I n : Nat), (∀ i, i < I → i ≤ n → f i = f' i) → (∀ i, i ≤ n → g i = g' i) → PT.part f g I n = PT.part f' g' I n
  | 0, _, _, _ => rfl
  | I + 1, n, h1, h2 => by
    rw [PT.part, PT.part, part_congr I n (fun i hi hn => h1 i (by omega) hn) h2]
    by_cases q : I ≤ n
    · rw [if_pos q, if_pos q, h1 I (by omega) q, h2 (n - I) (by omega)]
    · rw [if_neg q, if_neg q]
theorem rowS_c (a b : S p) (n : Nat) : (rowS a b).c n = a.c n - PT.part (fun i => b.c (i + 1)) (rowS a b).c n (n - 1) := by
  show (rowN a.c b.c (n + 1)).getD n 0 = _
  rw [rowN, List.getD_eq_getElem?_getD, List.getElem?_append_right (by rw [rowN_len]; exact Nat.le_refl _), rowN_len, Nat.sub_self]
  show a.c n - _ = _
  congr 1
  cases n with
  | zero => rfl
  | succ n => exact part_congr _ _ (fun i _ _ => rfl) fun i hi => rowN_get a.c b.c (n + 1) i (by omega)
theorem rowS_ok {a b : S p} (h : b.c 0 = 1) : b * rowS a b = a := by
  refine Ser.ext (funext fun n => ?_)
  rw [mul_c]
  cases n with
  | zero =>
    show b.c 0 * (rowS a b).c 0 = a.c 0
    rw [rowS_c, h]
    show 1 * (a.c 0 - 0) = a.c 0
    grind
  | succ n =>
    show b.c 0 * (rowS a b).c (n + 1) + mulF (fun i => b.c (i + 1)) (rowS a b).c n = a.c (n + 1)
    rw [rowS_c, h, Nat.add_sub_cancel, part_mulF]
    grind
/-- one number: what is taken from a's, row by row -/
theorem row_part {a b s : S p} (e : b * s = a) (h0 : b.c 0 = 1) (k J : Nat) (hJ : k < J ∨ ∀ i, J ≤ i → b.c i = 0) : a.c k - PT.part b.c s.c J k + s.c k = s.c k := by
  have : PT.part b.c s.c J k = a.c k := by
    rw [← e, mul_c]
    rcases hJ with h | h
    · rw [part_more b.c s.c h, part_mulF]
    · exact part_all b.c s.c h
  rw [this]
  grind
noncomputable def nuE (p : Nat) (a b : S p) [NeZero p] (xv : D) (m : Nat) (l : List D) (k : Tre.Slot) (num j : Tre.Slot) : Tre.Env := [.d false (.int (p : Int)), .d false xv, .d false (.int (m : Nat)), .d true (.list l), k, .d false (po a), .d false (po b), num, j]
theorem tup_get {n i : Nat} {φ : Nat → Int} {x : D} (h : (rngD 0 n)[i]? = some x) : i < n ∧ x = .int (i : Nat) := by
  rw [rng_dt] at h
  have := dt_ltlen h
  rw [dt_get this] at h
  exact ⟨this, by cases h; exact congrArg PyData.int (by omega)⟩
theorem numbers_ok (h : Pr p) (k : Nat) (s : Src) {a b r : S p} (ha : Fs a) (hb : Fs b) (h0 : b.c 0 = 1) (e : b * r = a) (la : ln a ≤ 1000) (lb : ln b ≤ 1000) (m : Nat) (hm : m ≤ 1000) :
    Ph (k + 1) 24 [.d (.int (p : Int)), .d (fr a b), .d (.int (m : Nat))] s = .ok (false, .tuple (dt m (cf r))) s := by
  show endF (evS (Ph k) G b_numbers_of [.d false (.int (p : Int)), .d false (fr a b), .d false (.int (m : Nat)), .e, .e, .e, .e, .e, .e] s) = _
  unfold b_numbers_of
  have h2 := h.two
  have lb1 : 0 < ln b := (ln_last hb (nz0 h.F h0)).2
  rw [seq_next (env' := [.d false (.int (p : Int)), .d false (fr a b), .d false (.int (m : Nat)), .e, .e, .d false (po a), .d false (po b), .e, .e]) (s' := s) (asg_e (x := (.frz, fr a b)) (v_e rfl) rfl)]
  rw [seq_next (env' := nuE p a b (fr a b) m (dt 0 (cf r)) .e .e .e) (s' := s) (asg_e (lst_e ea_nil rfl (Nat.zero_le _)) rfl)]
  obtain ⟨env', e1, x1, x2, x3, rfl⟩ := for_ind (Φ := Ph k) (Gg := G) (tg := .v 4) (it := .rng (.cons (.v 2) .nil)) (b := .seq (.asg (.v 7) (.ife (.cmp .Lt (.v 4) (.bi .len (.cons (.v 5) .nil))) (.sub (.v 5) (.v 4)) (.c (.int 0)))) (.seq (.for (.v 8) (.rng (.cons (.c (.int 1)) (.cons (.bi .min (.cons (.bi .len (.cons (.v 6) .nil)) (.cons (.op .Add (.v 4) (.c (.int 1))) .nil))) .nil))) (.seq (.aug 7 .Sub (.op .Mult (.sub (.v 6) (.v 8)) (.sub (.v 3) (.op .Sub (.v 4) (.v 8))))) .nil)) (.seq (.app 3 (.op .Mod (.v 7) (.v 0))) .nil)))
    (env := nuE p a b (fr a b) m (dt 0 (cf r)) .e .e .e) (s := s) (s1 := s) (xs := rngD 0 m)
    (fun i env => ∃ x1 x2 x3, env = nuE p a b (fr a b) m (dt i (cf r)) x1 x2 x3)
    (rng1_e (j := ((m : Nat) : Int)) (v_e rfl) (by omega)) ⟨.e, .e, .e, rfl⟩ (fun i x env hx ⟨x1, x2, x3, hE⟩ => by
      obtain ⟨hi, rfl⟩ := tup_get (φ := cf r) hx
      subst hE
      refine ⟨nuE p a b (fr a b) m (dt i (cf r)) (.d false (.int (i : Nat))) x2 x3, ?_⟩
      have s1 : evS (Ph k) G (.asg (.v 7) (.ife (.cmp .Lt (.v 4) (.bi .len (.cons (.v 5) .nil))) (.sub (.v 5) (.v 4)) (.c (.int 0)))) (nuE p a b (fr a b) m (dt i (cf r)) (.d false (.int (i : Nat))) x2 x3) s = .ok (.next (nuE p a b (fr a b) m (dt i (cf r)) (.d false (.int (i : Nat))) (.d false (.int (cf a i))) x3)) s := by
        refine asg_e (x := (.frz, .int (cf a i))) ?_ rfl
        by_cases q : i < ln a
        · rw [ife_t (x := (.frz, .bool true)) (cmp_e (v_e rfl) (bi1 (x := (.frz, po a)) (v_e rfl) (len_po a)) (clt (dtr (by omega)))) rfl]
          exact sub_e (x := (.frz, po a)) (v_e rfl) (v_e rfl) (sub_po q)
        · rw [ife_f (x := (.frz, .bool false)) (cmp_e (v_e rfl) (bi1 (x := (.frz, po a)) (v_e rfl) (len_po a)) (clt (dfa (by omega)))) rfl, cf_out ha (by omega)]
          exact ev_c
      obtain ⟨J, hJ⟩ : ∃ J, J = min (ln b) (i + 1) := ⟨_, rfl⟩
      have hmin : biF .min [.int ((ln b : Nat) : Int), .int ((i : Nat) + 1 : Int)] = some (.frz, .int (J : Nat)) := by
        show some (Kd.frz, PyData.int (if (i : Nat) + 1 < ((ln b : Nat) : Int) then ((i : Nat) + 1 : Int) else ((ln b : Nat) : Int))) = _
        by_cases q : (i : Nat) + 1 < ((ln b : Nat) : Int)
        · rw [if_pos q, show ((i : Nat) + 1 : Int) = (J : Nat) by omega]
        · rw [if_neg q, show ((ln b : Nat) : Int) = (J : Nat) by omega]
      have hJ1 : ((J : Nat) : Int) - 1 = ((J - 1 : Nat) : Int) := by omega
      obtain ⟨env', e2, x3', w, rfl, hw⟩ := for_ind (Φ := Ph k) (Gg := G) (tg := .v 8) (it := .rng (.cons (.c (.int 1)) (.cons (.bi .min (.cons (.bi .len (.cons (.v 6) .nil)) (.cons (.op .Add (.v 4) (.c (.int 1))) .nil))) .nil))) (b := .seq (.aug 7 .Sub (.op .Mult (.sub (.v 6) (.v 8)) (.sub (.v 3) (.op .Sub (.v 4) (.v 8))))) .nil)
        (env := nuE p a b (fr a b) m (dt i (cf r)) (.d false (.int (i : Nat))) (.d false (.int (cf a i))) x3) (s := s) (s1 := s) (xs := rngD 1 (((J : Nat) : Int) - 1).toNat)
        (fun t env => ∃ x3 w, env = nuE p a b (fr a b) m (dt i (cf r)) (.d false (.int (i : Nat))) (.d false (.int w)) x3 ∧ fi p w = a.c i - PT.part b.c r.c (t + 1) i + r.c i)
        (rng2_e ev_c (bi2 (bi1 (x := (.frz, po b)) (v_e rfl) (len_po b)) (op_e (v_e rfl) ev_c (oa _ _)) hmin) (by omega) (by omega))
        ⟨x3, cf a i, rfl, by
          rw [fi_cf]
          show a.c i = a.c i - (0 + (if 0 ≤ i then b.c 0 * r.c (i - 0) else 0)) + r.c i
          rw [if_pos (Nat.zero_le _), h0, Nat.sub_zero]
          grind⟩ (fun t x env hx ⟨x3, w, hE, hw⟩ => by
          rw [rng_dt] at hx
          have ht := dt_ltlen hx
          rw [dt_get ht] at hx
          cases hx
          subst hE
          have ht2 : t + 1 < J := by omega
          have ej : (1 + (t : Nat) : Int) = ((t + 1 : Nat) : Int) := by omega
          rw [ej]
          have e3 : subF (po b) (.int ((t + 1 : Nat) : Int)) = some (.int (cf b (t + 1))) := sub_po (by omega)
          have e4 : subF (.list (dt i (cf r))) (.int ((i : Nat) - (t + 1 : Nat) : Int)) = some (.int (cf r (i - (t + 1)))) := by
            rw [show ((i : Nat) - (t + 1 : Nat) : Int) = ((i - (t + 1) : Nat) : Int) by omega]
            exact dt_sub (φ := cf r) (by omega)
          refine ⟨nuE p a b (fr a b) m (dt i (cf r)) (.d false (.int (i : Nat))) (.d false (.int w)) (.d false (.int ((t + 1 : Nat) : Int))), _, rfl, one_e (aug_e (k := .frz) rfl (op_e (sub_e (x := (.frz, po b)) (v_e rfl) (v_e rfl) e3) (sub_e (x := (.peek, .list _)) (vo_e rfl) (op_e (v_e rfl) (v_e rfl) (os _ _)) e4) (om (.inl (cf_small h b _)))) rfl), .d false (.int ((t + 1 : Nat) : Int)), w - cf b (t + 1) * cf r (i - (t + 1)), rfl, ?_⟩
          rw [fi_sub, fi_mul, fi_cf, fi_cf, hw]
          show _ = a.c i - (PT.part b.c r.c (t + 1) i + (if t + 1 ≤ i then b.c (t + 1) * r.c (i - (t + 1)) else 0)) + r.c i
          rw [if_pos (by omega)]
          grind)
      have hlen : (rngD 1 (((J : Nat) : Int) - 1).toNat).length = J - 1 := by rw [rng_dt, dt_len]; omega
      rw [hlen, show J - 1 + 1 = J by omega] at hw
      rw [row_part e h0 i J (by
        by_cases q : ln b ≤ i + 1
        · exact .inr fun j hj => ln_le hb j (by omega)
        · exact .inl (by omega))] at hw
      refine ⟨_, rfl, ?_, .d false (.int (i : Nat)), .d false (.int w), x3', rfl⟩
      rw [seq_next s1, seq_next e2]
      refine one_e ?_
      have := app_e (Φ := Ph k) (Gg := G) (a := .op .Mod (.v 7) (.v 0)) (env := nuE p a b (fr a b) m (dt i (cf r)) (.d false (.int (i : Nat))) (.d false (.int w)) x3') (s := s) (s1 := s) (i := 3) (xs := dt i (cf r)) (k := .frz) (d := .int (cf r i)) rfl (by
        have := op_e (Φ := Ph k) (Gg := G) (a := .v 7) (b := .v 0) (env := nuE p a b (fr a b) m (dt i (cf r)) (.d false (.int (i : Nat))) (.d false (.int w)) x3') (s := s) (s1 := s) (s2 := s) (o := .Mod) (x := (.frz, .int w)) (y := (.frz, .int (p : Int))) (v_e rfl) (v_e rfl) (omod (by omega))
        rw [cf_fi hw] at this
        exact this) frzN (by rw [dt_len, sizeL]; omega)
      rw [this, dt_snoc]
      rfl)
  have hl : (rngD 0 m).length = m := by rw [rng_dt, dt_len]
  have e1 : evS (Ph k) G _ _ s = .ok (.next (nuE p a b (fr a b) m (dt (rngD 0 m).length (cf r)) x1 x2 x3)) s := e1
  rw [hl] at e1
  rw [seq_next e1]
  exact congrArg endF (seq_ret (o := false) (ret_e (k := .frz) (bi1 (x := (.peek, .list (dt m (cf r)))) (vo_e rfl) rfl)))
end
end K10
set_option maxHeartbeats 1000000
/-! K10K: the law's own numbers; parted ones, earlier ones. -/
namespace K10
open PySem PySem.Spec PyProof.Rows L2 Tre PT Pol
section
variable {p : Nat} [NeZero p]
def lnE (p : Nat) (xv : D) (m : Nat) (k : Tre.Slot) (l : List D) (late j : Tre.Slot) : Tre.Env := [.d false (.int (p : Int)), .d false xv, .d false (.int (m : Nat)), k, .d true (.list l), .d false (.int 1), late, j]
theorem one_val (h : Pr p) : ((1 : _root_.Fin p).val : Int) = 1 := by
  have := fi_val (p := p) 1
  rw [fi_one, Int.emod_eq_of_lt (by omega) (by have := h.two; omega)] at this
  exact this
theorem lnumbers_ok (h : Pr p) (k : Nat) (s : Src) {a b r : S p} (ha : Fs a) (hb : Fs b) (h0 : b.c 0 = 1) (e : b * r = a) (la : ln a ≤ 1000) (lb : ln b ≤ 1000) (m : Nat) (hm : m ≤ 1000) :
    Ph (k + 2) 38 [.d (.int (p : Int)), .d (fr a b), .d (.int (m : Nat))] s = .ok (false, .tuple (dt m (cf r))) s := by
  show endF (evS (Ph (k + 1)) G b__law_numbers [.d false (.int (p : Int)), .d false (fr a b), .d false (.int (m : Nat)), .e, .e, .e, .e, .e] s) = _
  unfold b__law_numbers
  have h2 := h.two
  have lb1 : 0 < ln b := (ln_last hb (nz0 h.F h0)).2
  have hn1 : (1 : _root_.Fin p) ≠ 0 := fun z => h.F.ne z.symm
  have iv : inv (1 : _root_.Fin p) = 1 := (inv_uniq h (by grind)).symm
  have ev := linverse_ok h k s hn1
  rw [iv, one_val h] at ev
  have eb : cf b 0 = 1 := by
    unfold cf
    rw [h0, one_val h]
  have sb : subF (po b) (.int 0) = some (.int 1) := by rw [sub0_po lb1, eb]
  rw [seq_next (env' := [.d false (.int (p : Int)), .d false (fr a b), .d false (.int (m : Nat)), .e, .d true (.list []), .d false (.int 1), .e, .e]) (s' := s) (par_e (ea_cons (lst_e ea_nil rfl (Nat.zero_le _)) (ea_cons (call2 (x := (.frz, .int (p : Int))) (y := (.frz, .int 1)) (o := false) (v_e rfl) frzN (sub_e (x := (.frz, po b)) (x1_e rfl) ev_c sb) frzN ev) ea_nil)) rfl)]
  rw [fz_e (env' := lnE p (fr a b) m .e (dt 0 (cf r)) .e .e) rfl]
  obtain ⟨env', e1, x1, x2, x3, rfl⟩ := for_ind (Φ := Ph (k + 1)) (Gg := G) (tg := .v 3) (it := .rng (.cons (.v 2) .nil)) (b := .seq (.asg (.v 6) (.ife (.cmp .Lt (.v 3) (.bi .len (.cons (.sub (.v 1) (.c (.int 0))) .nil))) (.sub (.sub (.v 1) (.c (.int 0))) (.v 3)) (.c (.int 0)))) (.seq (.for (.v 7) (.rng (.cons (.c (.int 1)) (.cons (.bi .len (.cons (.sub (.v 1) (.c (.int 1))) .nil)) .nil))) (.seq (.asg (.v 6) (.op .Sub (.v 6) (.ife (.cmp .GtE (.v 3) (.v 7)) (.op .Mult (.sub (.sub (.v 1) (.c (.int 1))) (.v 7)) (.sub (.v 4) (.op .Sub (.v 3) (.v 7)))) (.c (.int 0))))) .nil)) (.seq (.app 4 (.op .Mod (.bi .int (.cons (.op .Mult (.v 6) (.v 5)) .nil)) (.v 0))) .nil)))
    (env := lnE p (fr a b) m .e (dt 0 (cf r)) .e .e) (s := s) (s1 := s) (xs := rngD 0 m)
    (fun i env => ∃ x1 x2 x3, env = lnE p (fr a b) m x1 (dt i (cf r)) x2 x3)
    (rng1_e (j := ((m : Nat) : Int)) (v_e rfl) (by omega)) ⟨.e, .e, .e, rfl⟩ (fun i x env hx ⟨x1, x2, x3, hE⟩ => by
      obtain ⟨hi, rfl⟩ := tup_get (φ := cf r) hx
      subst hE
      refine ⟨lnE p (fr a b) m (.d false (.int (i : Nat))) (dt i (cf r)) x2 x3, ?_⟩
      have s1 : evS (Ph (k + 1)) G (.asg (.v 6) (.ife (.cmp .Lt (.v 3) (.bi .len (.cons (.sub (.v 1) (.c (.int 0))) .nil))) (.sub (.sub (.v 1) (.c (.int 0))) (.v 3)) (.c (.int 0)))) (lnE p (fr a b) m (.d false (.int (i : Nat))) (dt i (cf r)) x2 x3) s = .ok (.next (lnE p (fr a b) m (.d false (.int (i : Nat))) (dt i (cf r)) (.d false (.int (cf a i))) x3)) s := by
        refine asg_e (x := (.frz, .int (cf a i))) ?_ rfl
        by_cases q : i < ln a
        · rw [ife_t (x := (.frz, .bool true)) (cmp_e (v_e rfl) (bi1 (x := (.frz, po a)) (x0_e rfl) (len_po a)) (clt (dtr (by omega)))) rfl]
          exact sub_e (x := (.frz, po a)) (x0_e rfl) (v_e rfl) (sub_po q)
        · rw [ife_f (x := (.frz, .bool false)) (cmp_e (v_e rfl) (bi1 (x := (.frz, po a)) (x0_e rfl) (len_po a)) (clt (dfa (by omega)))) rfl, cf_out ha (by omega)]
          exact ev_c
      obtain ⟨env', e2, x3', w, rfl, hw⟩ := for_ind (Φ := Ph (k + 1)) (Gg := G) (tg := .v 7) (it := .rng (.cons (.c (.int 1)) (.cons (.bi .len (.cons (.sub (.v 1) (.c (.int 1))) .nil)) .nil))) (b := .seq (.asg (.v 6) (.op .Sub (.v 6) (.ife (.cmp .GtE (.v 3) (.v 7)) (.op .Mult (.sub (.sub (.v 1) (.c (.int 1))) (.v 7)) (.sub (.v 4) (.op .Sub (.v 3) (.v 7)))) (.c (.int 0))))) .nil)
        (env := lnE p (fr a b) m (.d false (.int (i : Nat))) (dt i (cf r)) (.d false (.int (cf a i))) x3) (s := s) (s1 := s) (xs := rngD 1 (((ln b : Nat) : Int) - 1).toNat)
        (fun t env => ∃ x3 w, env = lnE p (fr a b) m (.d false (.int (i : Nat))) (dt i (cf r)) (.d false (.int w)) x3 ∧ fi p w = a.c i - PT.part b.c r.c (t + 1) i + r.c i)
        (rng2_e ev_c (bi1 (x := (.frz, po b)) (x1_e rfl) (len_po b)) (by omega) (by omega))
        ⟨x3, cf a i, rfl, by
          rw [fi_cf]
          show a.c i = a.c i - (0 + (if 0 ≤ i then b.c 0 * r.c (i - 0) else 0)) + r.c i
          rw [if_pos (Nat.zero_le _), h0, Nat.sub_zero]
          grind⟩ (fun t x env hx ⟨x3, w, hE, hw⟩ => by
          rw [rng_dt] at hx
          have ht := dt_ltlen hx
          rw [dt_get ht] at hx
          cases hx
          subst hE
          have ht2 : t + 1 < ln b := by omega
          have ej : (1 + (t : Nat) : Int) = ((t + 1 : Nat) : Int) := by omega
          rw [ej]
          have e3 : subF (po b) (.int ((t + 1 : Nat) : Int)) = some (.int (cf b (t + 1))) := sub_po (by omega)
          refine ⟨lnE p (fr a b) m (.d false (.int (i : Nat))) (dt i (cf r)) (.d false (.int w)) (.d false (.int ((t + 1 : Nat) : Int))), ?_⟩
          by_cases q : t + 1 ≤ i
          · have e4 : subF (.list (dt i (cf r))) (.int ((i : Nat) - (t + 1 : Nat) : Int)) = some (.int (cf r (i - (t + 1)))) := by
              rw [show ((i : Nat) - (t + 1 : Nat) : Int) = ((i - (t + 1) : Nat) : Int) by omega]
              exact dt_sub (φ := cf r) (by omega)
            refine ⟨lnE p (fr a b) m (.d false (.int (i : Nat))) (dt i (cf r)) (.d false (.int (w - cf b (t + 1) * cf r (i - (t + 1))))) (.d false (.int ((t + 1 : Nat) : Int))), rfl, one_e (asg_e (x := (.frz, .int (w - cf b (t + 1) * cf r (i - (t + 1))))) (op_e (y := (.frz, .int (cf b (t + 1) * cf r (i - (t + 1))))) (v_e rfl) ?_ (os _ _)) rfl), .d false (.int ((t + 1 : Nat) : Int)), w - cf b (t + 1) * cf r (i - (t + 1)), rfl, ?_⟩
            · rw [ife_t (x := (.frz, .bool true)) (cmp_e (v_e rfl) (v_e rfl) (cge (dtr (by omega)))) rfl]
              exact op_e (sub_e (x := (.frz, po b)) (x1_e rfl) (v_e rfl) e3) (sub_e (x := (.peek, .list _)) (vo_e rfl) (op_e (v_e rfl) (v_e rfl) (os _ _)) e4) (om (.inl (cf_small h b _)))
            · rw [fi_sub, fi_mul, fi_cf, fi_cf, hw]
              show _ = a.c i - (PT.part b.c r.c (t + 1) i + (if t + 1 ≤ i then b.c (t + 1) * r.c (i - (t + 1)) else 0)) + r.c i
              rw [if_pos q]
              grind
          · refine ⟨lnE p (fr a b) m (.d false (.int (i : Nat))) (dt i (cf r)) (.d false (.int (w - 0))) (.d false (.int ((t + 1 : Nat) : Int))), rfl, one_e (asg_e (x := (.frz, .int (w - 0))) (op_e (y := (.frz, .int 0)) (v_e rfl) ?_ (os _ _)) rfl), .d false (.int ((t + 1 : Nat) : Int)), w - 0, rfl, ?_⟩
            · rw [ife_f (x := (.frz, .bool false)) (cmp_e (v_e rfl) (v_e rfl) (cge (dfa (by omega)))) rfl]
              exact ev_c
            · rw [Int.sub_zero, hw]
              show _ = a.c i - (PT.part b.c r.c (t + 1) i + (if t + 1 ≤ i then b.c (t + 1) * r.c (i - (t + 1)) else 0)) + r.c i
              rw [if_neg q]
              grind)
      have hlen : (rngD 1 (((ln b : Nat) : Int) - 1).toNat).length = ln b - 1 := by rw [rng_dt, dt_len]; omega
      rw [hlen, show ln b - 1 + 1 = ln b by omega] at hw
      rw [row_part e h0 i (ln b) (.inr fun j hj => ln_le hb j hj)] at hw
      refine ⟨_, rfl, ?_, .d false (.int (i : Nat)), .d false (.int w), x3', rfl⟩
      rw [seq_next s1, seq_next e2]
      refine one_e ?_
      have := app_e (Φ := Ph (k + 1)) (Gg := G) (a := .op .Mod (.bi .int (.cons (.op .Mult (.v 6) (.v 5)) .nil)) (.v 0)) (env := lnE p (fr a b) m (.d false (.int (i : Nat))) (dt i (cf r)) (.d false (.int w)) x3') (s := s) (s1 := s) (i := 4) (xs := dt i (cf r)) (k := .frz) (d := .int (cf r i)) rfl (by
        have := op_e (Φ := Ph (k + 1)) (Gg := G) (a := .bi .int (.cons (.op .Mult (.v 6) (.v 5)) .nil)) (b := .v 0) (env := lnE p (fr a b) m (.d false (.int (i : Nat))) (dt i (cf r)) (.d false (.int w)) x3') (s := s) (s1 := s) (s2 := s) (o := .Mod) (x := (.frz, .int (w * 1))) (y := (.frz, .int (p : Int))) (bi1 (x := (.frz, .int (w * 1))) (op_e (v_e rfl) (v_e rfl) (om (.inr (by omega)))) rfl) (v_e rfl) (omod (by omega))
        rw [Int.mul_one, cf_fi hw] at this
        exact this) frzN (by rw [dt_len, sizeL]; omega)
      rw [this, dt_snoc]
      rfl)
  have hl : (rngD 0 m).length = m := by rw [rng_dt, dt_len]
  have e1 : evS (Ph (k + 1)) G _ _ s = .ok (.next (lnE p (fr a b) m x1 (dt (rngD 0 m).length (cf r)) x2 x3)) s := e1
  rw [hl] at e1
  rw [seq_next e1]
  exact congrArg endF (seq_ret (o := false) (ret_e (k := .frz) (bi1 (x := (.peek, .list (dt m (cf r)))) (vo_e rfl) rfl)))
/-! ### from a moment on -/
def dn (m : Nat) (f : S p) : S p := ⟨fun i => f.c (m + i)⟩
theorem dn_c (m : Nat) (f : S p) (i : Nat) : (dn m f).c i = f.c (m + i) := rfl
theorem lw_dn (m : Nat) (f : S p) : lw m f + zp m * dn m f = f := by
  refine Ser.ext (funext fun i => ?_)
  rw [add_c, lw_c, zp_c]
  by_cases q : i < m
  · rw [if_pos q, if_pos q]; grind
  · rw [if_neg q, if_neg q, dn_c, show m + (i - m) = i by omega]; grind
theorem dn_zp (m : Nat) (f : S p) : dn m (zp m * f) = f := by
  refine Ser.ext (funext fun i => ?_)
  rw [dn_c, zp_c, if_neg (by omega), show m + i - m = i by omega]
theorem lw_zp (m : Nat) (f : S p) : lw m (zp m * f) = 0 := by
  refine Ser.ext (funext fun i => ?_)
  rw [lw_c, zero_c, zp_c]
  by_cases q : i < m
  · rw [if_pos q, if_pos q]
  · rw [if_neg q]
theorem dn_fs {m : Nat} {f : S p} (h : Fs f) : Fs (dn m f) := by
  obtain ⟨n, h⟩ := h
  exact ⟨n, fun i hi => h (m + i) (by omega)⟩
theorem dn_ln {m : Nat} {f : S p} (h : Fs f) : ln (dn m f) = ln f - m := by
  by_cases q : ln f ≤ m
  · have : dn m f = 0 := Ser.ext (funext fun i => by rw [dn_c, zero_c, ln_le h (m + i) (by omega)])
    rw [this, (ln_zero Fs.zero).mpr rfl]
    omega
  · have hz : f ≠ 0 := fun z => by rw [(ln_zero h).mpr z] at q; omega
    refine ln_eq (fun i hi => ?_) (by omega) ?_
    · rw [dn_c, ln_le h (m + i) (by omega)]
    · rw [dn_c, show m + (ln f - m - 1) = ln f - 1 by omega]
      exact (ln_last h hz).1
theorem po_drop {m : Nat} {f : S p} (h : Fs f) : PyData.tuple ((dt (ln f) (cf f)).drop m) = po (dn m f) := by
  rw [dt_drop]
  unfold po
  rw [dn_ln h]
  rfl
theorem parts_ok (h : Pr p) (k : Nat) (s : Src) {a b r : S p} (fa : Fs a) (fb : Fs b) (b0 : b.c 0 = 1) (e : b * r = a) {n : Nat} (hn : n ≤ 200) (l1 : ln a ≤ n) (l2 : ln b ≤ n) {m : Nat} (hm : m ≤ 100) :
    ∃ u v, Red u v ∧ v * dn m r = u ∧ ln u ≤ n + m ∧ ln v ≤ n ∧ Ph (k + 5) 25 [.d (.int (p : Int)), .d (fr a b), .d (.int (m : Nat))] s = .ok (false, .tuple [po (lw m r), fr u v]) s := by
  have zb := nz0 h.F b0
  have nu := numbers_ok h (k + 3) s fa fb b0 e (by omega) (by omega) m (by omega)
  have fh : Fs (lw m r) := ⟨m, lw_le m r⟩
  have lh := ln_min (lw_le m r)
  have tr := trimmed_po (p := p) (k + 3) s (row := .tuple (dt m (cf r))) (N := m) (h := lw m r) (.inr rfl) (lw_le m r) (fun i hi => lw_cf hi)
  have tm := times_ok h (k + 2) s fh fb (by omega) (by omega)
  have ft := fh.mul fb
  have lt := mul_ln fh fb
  have le := less_ok h (k + 1) s fa ft (by omega)
  have fl := fa.sub ft
  have ll : ln (a - lw m r * b) ≤ n + m := ln_min (((ln_le fa).mono (by omega)).sub ((ln_le ft).mono (by omega)))
  have eq : dn m (a - lw m r * b) = b * dn m r := by
    have : a - lw m r * b = zp m * (b * dn m r) := by
      have := lw_dn m r
      rw [← e]
      grind
    rw [this, dn_zp]
  have fd := dn_fs (m := m) fl
  have ld := dn_ln (m := m) fl
  obtain ⟨o, fo, lo, ev⟩ := fraction_ok h k s fd fb (by omega) (by omega)
  obtain ⟨u, v, rfl, ru, e2⟩ := fo.fit1 h.F b0
  obtain ⟨q1, q2⟩ := lo u v rfl
  refine ⟨u, v, ru, ?_, by omega, by omega, ?_⟩
  · rw [eq] at e2
    exact cancel h.F zb (by grind)
  · show endF (evS (Ph (k + 4)) G b_parts_at [.d false (.int (p : Int)), .d false (fr a b), .d false (.int (m : Nat)), .e] s) = _
    unfold b_parts_at
    rw [seq_next (env' := [.d false (.int (p : Int)), .d false (fr a b), .d false (.int (m : Nat)), .d false (po (lw m r))]) (s' := s) (asg_e (call1 (x := (.frz, .tuple (dt m (cf r)))) (o := false) (call3 (x := (.frz, .int (p : Int))) (y := (.frz, fr a b)) (z := (.frz, .int (m : Nat))) (o := false) (v_e rfl) frzN (v_e rfl) frzN (v_e rfl) frzN nu) frzN tr) rfl)]
    have sl : evE (Ph (k + 4)) G (.sl (.call 7 (.cons (.v 0) (.cons (.sub (.v 1) (.c (.int 0))) (.cons (.call 8 (.cons (.v 0) (.cons (.v 3) (.cons (.sub (.v 1) (.c (.int 1))) .nil)))) .nil)))) (.cons (.v 2) .nil) .nil) [.d false (.int (p : Int)), .d false (fr a b), .d false (.int (m : Nat)), .d false (po (lw m r))] s = .ok (.frz, po (dn m (a - lw m r * b))) s := by
      rw [← po_drop fl]
      exact sll_e (k := .frz) (x := po (a - lw m r * b)) (call3 (x := (.frz, .int (p : Int))) (y := (.frz, po a)) (z := (.frz, po (lw m r * b))) (o := false) (v_e rfl) frzN (x0_e rfl) frzN (call3 (x := (.frz, .int (p : Int))) (y := (.frz, po (lw m r))) (z := (.frz, po b)) (o := false) (v_e rfl) frzN (v_e rfl) frzN (x1_e rfl) frzN tm) frzN le) (v_e rfl) rfl
    exact congrArg endF (seq_ret (o := false) (ret_e (k := .frz) (tup2_e (x := (.frz, po (lw m r))) (y := (.frz, fr u v)) (v_e rfl) frzN (call3 (x := (.frz, .int (p : Int))) (y := (.frz, po (dn m (a - lw m r * b)))) (z := (.frz, po b)) (o := false) (v_e rfl) frzN sl frzN (x1_e rfl) frzN ev) frzN)))
theorem earlier_of (h : Pr p) (k : Nat) (s : Src) {a b r u v : S p} {m : Nat} (e : Ph k 25 [.d (.int (p : Int)), .d (fr a b), .d (.int (m : Nat))] s = .ok (false, .tuple [po (lw m r), fr u v]) s) :
    (lw m r = 0 → Ph (k + 1) 26 [.d (.int (p : Int)), .d (fr a b), .d (.int (m : Nat))] s = .ok (false, fr u v) s) ∧ (lw m r ≠ 0 → Ph (k + 1) 26 [.d (.int (p : Int)), .d (fr a b), .d (.int (m : Nat))] s = .exc 0 [] s) := by
  have st : ∀ X, endF (evS (Ph k) G b_earlier [.d false (.int (p : Int)), .d false (fr a b), .d false (.int (m : Nat)), .e, .e] s) = X → Ph (k + 1) 26 [.d (.int (p : Int)), .d (fr a b), .d (.int (m : Nat))] s = X := fun X h => h
  have fh : Fs (lw m r) := ⟨m, lw_le m r⟩
  obtain ⟨w, e1, i1⟩ := eqF_po0 fh
  have go : evS (Ph k) G b_earlier [.d false (.int (p : Int)), .d false (fr a b), .d false (.int (m : Nat)), .e, .e] s = evS (Ph k) G (.seq (.ifs (.cmp .NotEq (.v 3) (.tup .nil)) (.seq (.raise 0 0 .nil) .nil) .nil) (.seq (.ret (.v 4)) .nil)) [.d false (.int (p : Int)), .d false (fr a b), .d false (.int (m : Nat)), .d false (po (lw m r)), .d false (fr u v)] s := by
    unfold b_earlier
    rw [seq_next (env' := [.d false (.int (p : Int)), .d false (fr a b), .d false (.int (m : Nat)), .d false (po (lw m r)), .d false (fr u v)]) (s' := s) (asg_e (x := (.frz, .tuple [po (lw m r), fr u v])) (call3 (x := (.frz, .int (p : Int))) (y := (.frz, fr a b)) (z := (.frz, .int (m : Nat))) (o := false) (v_e rfl) frzN (v_e rfl) frzN (v_e rfl) frzN e) rfl)]
  refine ⟨fun z => st _ ?_, fun z => st _ ?_⟩
  · rw [go]
    rw [i1.mpr z] at e1
    rw [seq_next (env' := [.d false (.int (p : Int)), .d false (fr a b), .d false (.int (m : Nat)), .d false (po (lw m r)), .d false (fr u v)]) (s' := s) (by
      rw [ifs_f (x := (.frz, .bool false)) (s' := s) (cmp_e (v_e rfl) tup0_e (cne e1)) rfl, ev_nil])]
    exact congrArg endF (seq_ret (o := false) (ret_e (k := .frz) (v_e rfl)))
  · rw [go]
    rw [bfalse i1 z] at e1
    refine congrArg endF (a₂ := .exc 0 [] s) (seq_exc ?_)
    rw [ifs_t (x := (.frz, .bool true)) (s' := s) (cmp_e (v_e rfl) tup0_e (cne e1)) rfl]
    exact seq_exc raise0_e
end
end K10
set_option maxHeartbeats 1000000
/-! K10L: what is a polynomial, a fraction. -/
namespace K10
open PySem PySem.Spec PyProof.Rows L2 Tre PT Pol
section
variable (p : Nat)
def isIn : D → Bool
  | .int _ => true
  | _ => false
/-- a number by p -/
def isN : D → Bool
  | .int i => decide (0 ≤ i) && decide (i < (p : Int))
  | _ => false
end
theorem whole_is (k : Nat) (s : Src) (v : D) : Ph (k + 1) 0 [.d v] s = .ok (false, .bool (isIn v)) s := by
  show endF (evS (Ph k) G b_is_whole [.d false v] s) = _
  unfold b_is_whole
  cases v <;> simp [evS, evE, isiF, truth, isIn] <;> rfl
theorem int_is (k : Nat) (s : Src) (v : D) : Ph (k + 1) 30 [.d v] s = .ok (false, .bool (isIn v)) s := whole_is k s v
theorem number_is (p k : Nat) (s : Src) (v : D) : Ph (k + 2) 1 [.d (.int (p : Int)), .d v] s = .ok (false, .bool (isN p v)) s := by
  show endF (evS (Ph (k + 1)) G b_is_number [.d false (.int (p : Int)), .d false v] s) = _
  unfold b_is_number
  have w := whole_is k s v
  refine congrArg endF (seq_ret (o := false) (ret_e (k := .frz) ?_))
  cases v with
  | int i =>
    rw [and_t (x := (.frz, .bool true)) (s1 := s) (call1 (x := (.frz, .int i)) (o := false) (v_e rfl) frzN w) rfl]
    by_cases h : 0 ≤ i
    · simp [evE, cmpF, i2F, R.of, isN, h]
    · simp [evE, cmpF, i2F, R.of, isN, h]
  | _ => exact and_f (x := (.frz, .bool false)) (call1 (x := (.frz, _)) (o := false) (v_e rfl) frzN w) rfl
theorem lnumber_is (p k : Nat) (s : Src) (v : D) : Ph (k + 2) 31 [.d v, .d (.int 0), .d (.int ((p : Int) - 1))] s = .ok (false, .bool (isN p v)) s := by
  show endF (evS (Ph (k + 1)) G b__law_is_number [.d false v, .d false (.int 0), .d false (.int ((p : Int) - 1))] s) = _
  unfold b__law_is_number
  have w := int_is k s v
  refine congrArg endF (seq_ret (o := false) (ret_e (k := .frz) ?_))
  cases v with
  | int i =>
    rw [and_t (x := (.frz, .bool true)) (s1 := s) (call1 (x := (.frz, .int i)) (o := false) (v_e rfl) frzN w) rfl]
    have e : decide (i ≤ (p : Int) - 1) = decide (i < (p : Int)) := by rw [decide_eq_decide]; omega
    by_cases h : 0 ≤ i
    · simp [evE, cmpF, i2F, R.of, isN, h, e]
    · simp [evE, cmpF, i2F, R.of, isN, h]
  | _ => exact and_f (x := (.frz, .bool false)) (call1 (x := (.frz, _)) (o := false) (v_e rfl) frzN w) rfl
theorem filter_true (xs : List D) (g : D → D) : (xs.filter fun _ => true).map g = xs.map g := by rw [List.filter_eq_self.mpr fun _ _ => rfl]
theorem all_ok (xs : List D) (g : D → Bool) : biF .all [.list (xs.map fun x => .bool (g x))] = some (.frz, .bool (xs.all g)) := by
  show (boolsOf _).map _ = _
  rw [boolsOf_map]
  simp [List.all_map, Function.comp_def]
theorem eqF_tn (xs : List D) : eqF (.tuple xs) (.tuple []) = some xs.isEmpty := by
  unfold eqF
  have h : Nat.min (PyData.depth (.tuple xs)) (PyData.depth (.tuple [])) ≤ 64 := Nat.le_trans (Nat.min_le_right _ _) (by simp [PyData.depth, PyData.depthAll])
  rw [if_pos h]
  cases xs <;> rfl
/-- all numbers, the last one not 0 -/
def lastNz (xs : List D) : Bool := match xs.getLast? with
  | some (.int 0) => false
  | _ => true
def isPo (p : Nat) : D → Bool
  | .tuple xs => xs.all (isN p) && lastNz xs
  | _ => false
theorem nums_dt {p : Nat} : ∀ {xs : List D}, xs.all (isN p) = true → ∃ φ : Nat → Int, xs = dt xs.length φ ∧ ∀ i, i < xs.length → 0 ≤ φ i ∧ φ i < (p : Int) := by
  intro xs h
  refine ⟨fun i => match xs[i]? with
    | some (.int n) => n
    | _ => 0, dt_ext rfl fun i hi => ?_, fun i hi => ?_⟩
  · have hx := List.all_eq_true.mp h xs[i] (List.getElem_mem hi)
    rw [List.getElem?_eq_getElem hi]
    cases q : xs[i] with
    | int n => rfl
    | _ => rw [q] at hx; cases hx
  · have hx := List.all_eq_true.mp h xs[i] (List.getElem_mem hi)
    simp only [List.getElem?_eq_getElem hi]
    cases q : xs[i] with
    | int n =>
      rw [q] at hx
      simp only [isN, Bool.and_eq_true, decide_eq_true_eq] at hx
      exact hx
    | _ => rw [q] at hx; cases hx
theorem last_dt {n : Nat} {φ : Nat → Int} (h : 0 < n) : lastNz (dt n φ) = !decide (φ (n - 1) = 0) := by
  have e : (dt n φ).getLast? = some (.int (φ (n - 1))) := by
    rw [List.getLast?_eq_getElem?, dt_len, dt_get (by omega)]
  unfold lastNz
  rw [e]
  by_cases z : φ (n - 1) = 0
  · rw [z]; rfl
  · rw [dfa z]
    split
    · rename_i q
      have := Option.some.inj q
      injection this with this
      exact absurd this z
    · rfl
section
variable {p : Nat} [NeZero p]
theorem poly_end {Φ : Nat → List Tre.Arg → Src → R (Bool × D)} {Gg : Nat → Option D} (s : Src) (xs : List D) (y : Tre.Slot) (u : Tre.Slot) (h : xs.all (isN p) = true) : endF (evS Φ Gg (.seq (.ret (.or (.cmp .Eq (.v 1) (.tup .nil)) (.cmp .NotEq (.sub (.v 1) (.neg (.c (.int 1)))) (.c (.int 0))))) .nil) [u, .d false (.tuple xs), y] s) = .ok (false, .bool (isPo p (.tuple xs))) s := by
  have ei : isPo p (.tuple xs) = lastNz xs := by show (xs.all (isN p) && lastNz xs) = _; rw [h]; rfl
  rw [ei]
  obtain ⟨φ, e, _⟩ := nums_dt h
  refine congrArg endF (seq_ret (o := false) (ret_e (k := .frz) ?_))
  by_cases h0 : xs = []
  · rw [h0]
    exact or_t (x := (.frz, .bool true)) (cmp_e (v_e rfl) tup0_e (ceq (eqF_tn []))) rfl
  · have hn : xs.isEmpty = false := List.isEmpty_eq_false_iff.mpr h0
    have hl : 0 < xs.length := List.length_pos_iff.mpr h0
    have e1 := eqF_tn xs
    rw [hn] at e1
    rw [or_f (x := (.frz, .bool false)) (cmp_e (v_e rfl) tup0_e (ceq e1)) rfl]
    rw [e, last_dt hl]
    exact cmp_e (sub_e (x := (.frz, .tuple (dt xs.length φ))) (v_e rfl) (neg_e ev_c) (dt_subL hl)) ev_c (cnei rfl)
theorem poly_is (k : Nat) (s : Src) (v : D) (hv : ∀ xs, v = .tuple xs → xs.length ≤ 100000) : Ph (k + 3) 2 [.d (.int (p : Int)), .d v] s = .ok (false, .bool (isPo p v)) s := by
  have st : ∀ X, endF (evS (Ph (k + 2)) G b_is_polynomial [.d false (.int (p : Int)), .d false v, .e] s) = X → Ph (k + 3) 2 [.d (.int (p : Int)), .d v] s = X := fun X h => h
  cases v with
  | tuple xs =>
    have hl := hv xs rfl
    have lc := lc_gen (Φ := Ph (k + 2)) (Gg := G) (tg := .v 2) (it := .it (.v 1)) (cond := .c (.bool true)) (elt := .call 1 (.cons (.v 0) (.cons (.v 2) .nil))) (ws := [2]) (env := [.d false (.int (p : Int)), .d false (.tuple xs), .e]) (s := s) (s1 := s) (pk := false) (xs := xs) (p := fun _ => true) (g := fun x => .bool (isN p x))
      (itF_e (v_e rfl) (.inl rfl) frzN) (by rw [sizeL]; omega) (fun x hx => ⟨[.d false (.int (p : Int)), .d false (.tuple xs), .d false x], rfl, ⟨.frz, ev_c⟩, fun _ => ⟨.frz, frzN, call2 (x := (.frz, .int (p : Int))) (y := (.frz, x)) (o := false) (v_e rfl) frzN (v_e rfl) frzN (number_is p k s x)⟩⟩)
    rw [filter_true] at lc
    have al := bi1 lc (all_ok xs (isN p))
    refine st _ ?_
    unfold b_is_polynomial
    by_cases h : xs.all (isN p) = true
    · rw [h] at al
      rw [seq_next (env' := [.d false (.int (p : Int)), .d false (.tuple xs), .e]) (s' := s) (by
        rw [ifs_f (x := (.frz, .bool false)) (s' := s) ?_ rfl, ev_nil]
        rw [or_f (x := (.frz, .bool false)) (s1 := s) (by simp [evE, isiF, truth]) rfl]
        exact not_e al)]
      exact poly_end s xs _ _ h
    · have h : xs.all (isN p) = false := by simpa using h
      rw [h] at al
      have ei : isPo p (.tuple xs) = false := by show (xs.all (isN p) && lastNz xs) = _; rw [h]; rfl
      rw [ei]
      refine congrArg endF (seq_ret (o := false) ?_)
      rw [ifs_t (x := (.frz, .bool true)) (s' := s) ?_ rfl]
      · exact seq_ret (o := false) (ret_e (k := .frz) ev_c)
      · rw [or_f (x := (.frz, .bool false)) (s1 := s) (by simp [evE, isiF, truth]) rfl]
        exact not_e al
  | _ =>
    refine st _ (congrArg endF (seq_ret (o := false) ?_))
    rw [ifs_t (x := (.frz, .bool true)) (s' := s) (or_t (x := (.frz, .bool true)) (by simp [evE, isiF, truth]) rfl) rfl]
    exact seq_ret (o := false) (ret_e (k := .frz) ev_c)
theorem lpoly_is (k : Nat) (s : Src) (v : D) (hv : ∀ xs, v = .tuple xs → xs.length ≤ 100000) : Ph (k + 3) 43 [.d (.int (p : Int)), .d v] s = .ok (false, .bool (isPo p v)) s := by
  have st : ∀ X, endF (evS (Ph (k + 2)) G b__law_is_poly [.d false (.int (p : Int)), .d false v, .e] s) = X → Ph (k + 3) 43 [.d (.int (p : Int)), .d v] s = X := fun X h => h
  cases v with
  | tuple xs =>
    have hl := hv xs rfl
    have lc := lc_gen (Φ := Ph (k + 2)) (Gg := G) (tg := .v 2) (it := .it (.v 1)) (cond := .not (.call 31 (.cons (.v 2) (.cons (.c (.int 0)) (.cons (.op .Sub (.v 0) (.c (.int 1))) .nil))))) (elt := .c (.int 1)) (ws := [2]) (env := [.d false (.int (p : Int)), .d false (.tuple xs), .e]) (s := s) (s1 := s) (pk := false) (xs := xs) (p := fun x => !isN p x) (g := fun _ => .int 1)
      (itF_e (v_e rfl) (.inl rfl) frzN) (by rw [sizeL]; omega) (fun x hx => ⟨[.d false (.int (p : Int)), .d false (.tuple xs), .d false x], rfl, ⟨.frz, not_e (x := (.frz, .bool (isN p x))) (call3 (x := (.frz, x)) (y := (.frz, .int 0)) (z := (.frz, .int ((p : Int) - 1))) (o := false) (v_e rfl) frzN ev_c frzN (op_e (v_e rfl) ev_c (os _ _)) frzN (lnumber_is p k s x))⟩, fun _ => ⟨.frz, frzN, ev_c⟩⟩)
    have ne : cmpF .NotEq (.list ((xs.filter fun x => !isN p x).map fun _ => PyData.int 1)) (.list []) = some (!xs.all (isN p)) := by
      rw [cne (eqF_nil _)]
      refine congrArg some (congrArg (!·) ?_)
      rw [Bool.eq_iff_iff, List.isEmpty_iff, List.map_eq_nil_iff, List.filter_eq_nil_iff, List.all_eq_true]
      simp
    have al := cmp_e (o := .NotEq) (z := !xs.all (isN p)) lc (lst_e (ds := []) ea_nil rfl (Nat.zero_le _)) ne
    refine st _ ?_
    unfold b__law_is_poly
    by_cases h : xs.all (isN p) = true
    · rw [h] at al
      rw [seq_next (env' := [.d false (.int (p : Int)), .d false (.tuple xs), .e]) (s' := s) (by
        rw [ifs_f (x := (.frz, .bool false)) (s' := s) ?_ rfl, ev_nil]
        rw [or_f (x := (.frz, .bool false)) (s1 := s) (by simp [evE, isiF, truth]) rfl]
        exact al)]
      exact poly_end s xs _ _ h
    · have h : xs.all (isN p) = false := by simpa using h
      rw [h] at al
      have ei : isPo p (.tuple xs) = false := by show (xs.all (isN p) && lastNz xs) = _; rw [h]; rfl
      rw [ei]
      refine congrArg endF (seq_ret (o := false) ?_)
      rw [ifs_t (x := (.frz, .bool true)) (s' := s) ?_ rfl]
      · exact seq_ret (o := false) (ret_e (k := .frz) ev_c)
      · rw [or_f (x := (.frz, .bool false)) (s1 := s) (by simp [evE, isiF, truth]) rfl]
        exact al
  | _ =>
    refine st _ (congrArg endF (seq_ret (o := false) ?_))
    rw [ifs_t (x := (.frz, .bool true)) (s' := s) (or_t (x := (.frz, .bool true)) (by simp [evE, isiF, truth]) rfl) rfl]
    exact seq_ret (o := false) (ret_e (k := .frz) ev_c)
/-- what is said to be a polynomial is one -/
theorem isPo_po {v : D} (h : isPo p v = true) : ∃ f : S p, Fs f ∧ v = po f := by
  cases v with
  | tuple xs =>
    have h : (xs.all (isN p) && lastNz xs) = true := h
    rw [Bool.and_eq_true] at h
    obtain ⟨h1, h2⟩ := h
    obtain ⟨φ, e, b⟩ := nums_dt h1
    obtain ⟨n, hn⟩ : ∃ n, n = xs.length := ⟨_, rfl⟩
    rw [← hn] at e b
    have le : Le (⟨fun i => if i < n then fi p (φ i) else 0⟩ : S p) n := fun i hi => by
      show (if i < n then fi p (φ i) else 0) = 0
      rw [if_neg (by omega)]
    have ec : ∀ i, i < n → φ i = cf (⟨fun i => if i < n then fi p (φ i) else 0⟩ : S p) i := fun i hi => by
      have hc : (⟨fun i => if i < n then fi p (φ i) else 0⟩ : S p).c i = fi p (φ i) := by
        show (if i < n then fi p (φ i) else 0) = _
        rw [if_pos hi]
      unfold cf
      rw [hc, fi_val, Int.emod_eq_of_lt (b i hi).1 (b i hi).2]
    refine ⟨⟨fun i => if i < n then fi p (φ i) else 0⟩, ⟨n, le⟩, ?_⟩
    rw [← tm_po le ec]
    have et : tm n φ = n := by
      cases n with
      | zero => rfl
      | succ m =>
        unfold tm
        rw [if_neg]
        rw [e, last_dt (by omega)] at h2
        intro z
        have z : φ (m + 1 - 1) = 0 := z
        rw [dtr z] at h2
        cases h2
    rw [et]
    exact congrArg PyData.tuple e
  | _ => cases h
theorem po_isPo (f : S p) (hf : Fs f) : isPo p (po f) = true := by
  show ((dt (ln f) (cf f)).all (isN p) && lastNz (dt (ln f) (cf f))) = true
  rw [Bool.and_eq_true]
  refine ⟨List.all_eq_true.mpr fun x hx => ?_, ?_⟩
  · obtain ⟨i, _, rfl⟩ := List.mem_map.mp hx
    have := cf_b f i
    show (decide (0 ≤ cf f i) && decide (cf f i < (p : Int))) = true
    rw [dtr this.1, dtr this.2] <;> rfl
  · by_cases z : f = 0
    · rw [(ln_zero hf).mpr z]; rfl
    · obtain ⟨l1, l2⟩ := ln_last hf z
      rw [last_dt l2, dfa (fun y => l1 (cf_zero.mp y))] <;> rfl
/-- coprime ones have the divisor 1 -/
theorem mg_cop (h : Pr p) {a b : S p} (ha : Fs a) (hb : Fs b) (c : Cop a b) : MG a b 1 := by
  obtain ⟨u, v, hu, hv, e⟩ := c
  exact .inr ⟨⟨⟨a, ha, by grind⟩, ⟨b, hb, by grind⟩, u, v, hu, hv, e⟩, nz0 h.F (by rw [one_c, if_pos rfl]), by rw [ln_one h.F, one_c, if_pos rfl]⟩
end
end K10
set_option maxHeartbeats 1000000
/-! K10M: fractions of anything; bent values. -/
namespace K10
open PySem PySem.Spec PyProof.Rows L2 Tre PT Pol
/-- rows within rows, none long -/
def Q1 (v : D) : Prop := ∀ xs, v = .tuple xs → xs.length ≤ 900
def Q2 (v : D) : Prop := Q1 v ∧ ∀ xs, v = .tuple xs → ∀ x ∈ xs, Q1 x
theorem len_t (xs : List D) : biF .len [.tuple xs] = some (.frz, .int (xs.length : Nat)) := rfl
theorem isi_t {Φ : Nat → List Tre.Arg → Src → R (Bool × D)} {Gg : Nat → Option D} {a : T} {env : Tre.Env} {s s1 : Src} {k : Kd} {v : D} {b : Bool} (h : evE Φ Gg a env s = .ok (k, v) s1) (hb : (!isiF "tuple" v) = b) : evE Φ Gg (.not (.isi "tuple" a)) env s = .ok (.frz, .bool b) s1 := by
  rw [← hb]
  simp only [evE, h, R.bind_ok, truth]
section
variable {p : Nat} [NeZero p]
theorem cf0_one (h : Pr p) {f : S p} : decide (cf f 0 = 1) = true ↔ f.c 0 = 1 := by
  rw [decide_eq_true_iff]
  unfold cf
  have e := one_val h
  constructor
  · intro z
    apply Fin.ext
    omega
  · intro z
    rw [z, e]
open Classical in
/-- whether two polynomials are a fraction -/
noncomputable def okFr (f g : S p) : Bool := decide (g ≠ 0 ∧ g.c 0 = 1 ∧ MG f g 1)
open Classical in
theorem okFr_t {f g : S p} : okFr f g = true ↔ g ≠ 0 ∧ g.c 0 = 1 ∧ MG f g 1 := by unfold okFr; exact decide_eq_true_iff
theorem and3_e {Φ : Nat → List Tre.Arg → Src → R (Bool × D)} {Gg : Nat → Option D} {A O C : T} {env : Tre.Env} {s : Src} (h : Pr p) {f g d : S p} (hf : Fs f) (hg : Fs g) (fd : Fs d) (m : MG f g d) (hA : evE Φ Gg A env s = .ok (.frz, po g) s) (hC : evE Φ Gg C env s = .ok (.frz, po d) s) (hO : evE Φ Gg O env s = .ok (.frz, .tuple [.int 1]) s) :
    evE Φ Gg (.and (.cmp .NotEq A (.tup .nil)) (.and (.cmp .Eq (.sub A (.c (.int 0))) (.c (.int 1))) (.cmp .Eq C O))) env s = .ok (.frz, .bool (okFr f g)) s := by
  obtain ⟨w, e1, i1⟩ := eqF_po0 hg
  by_cases z : g = 0
  · rw [i1.mpr z] at e1
    rw [bfalse okFr_t (fun x => x.1 z)]
    exact and_f (x := (.frz, .bool false)) (cmp_e hA tup0_e (cne e1)) rfl
  · rw [bfalse i1 z] at e1
    rw [and_t (x := (.frz, .bool true)) (cmp_e hA tup0_e (cne e1)) rfl]
    obtain ⟨_, l2⟩ := ln_last hg z
    have e2 := cmp_e (Φ := Φ) (Gg := Gg) (a := .sub A (.c (.int 0))) (b := .c (.int 1)) (o := .Eq) (sub_e (x := (.frz, po g)) hA ev_c (sub0_po l2)) ev_c (ceqi rfl)
    by_cases y : g.c 0 = 1
    · rw [(cf0_one h).mpr y] at e2
      rw [and_t e2 rfl]
      obtain ⟨w3, e3, i3⟩ := eqF_po1 h.F fd
      have : w3 = okFr f g := by
        rw [Bool.eq_iff_iff, i3, okFr_t]
        exact ⟨fun q => ⟨z, y, q ▸ m⟩, fun q => m.uniq h hf hg q.2.2⟩
      rw [← this]
      exact cmp_e hC hO (ceq e3)
    · rw [bfalse (cf0_one h) y] at e2
      rw [bfalse okFr_t (fun x => y x.2.1)]
      exact and_f e2 rfl
theorem okFr_red (h : Pr p) {a b : S p} (r : Red a b) : okFr a b = true := okFr_t.mpr ⟨red_nz h r, r.b0, mg_cop h r.fa r.fb r.cop⟩
theorem po_eq {f g : S p} (hf : Fs f) (hg : Fs g) (e : po f = po g) : f = g := by
  unfold po at e
  injection e with e
  have := eqv_dt (n := ln f) (m := ln g) (φ := cf f) (ψ := cf g)
  rw [e] at this
  exact po_inj hf hg (this.mp (eqv_dt.mpr ⟨rfl, fun _ _ => rfl⟩))
/-- whether anything is a fraction -/
theorem fr_both (h : Pr p) (k k' : Nat) (s : Src) (v : D) (hv : Q2 v) : ∃ w, Ph (k + 5) 14 [.d (.int (p : Int)), .d v] s = .ok (false, .bool w) s ∧ Ph (k' + 6) 44 [.d (.int (p : Int)), .d v] s = .ok (false, .bool w) s ∧ ∀ a b : S p, Red a b → v = fr a b → w = true := by
  have st1 : ∀ X, endF (evS (Ph (k + 4)) G b_is_fraction [.d false (.int (p : Int)), .d false v, .e, .e, .e] s) = X → Ph (k + 5) 14 [.d (.int (p : Int)), .d v] s = X := fun X h => h
  have st2 : ∀ X, endF (evS (Ph (k' + 5)) G b__law_is_one [.d false (.int (p : Int)), .d false v] s) = X → Ph (k' + 6) 44 [.d (.int (p : Int)), .d v] s = X := fun X h => h
  have no : ∀ w : Bool, evE (Ph (k + 4)) G (.or (.not (.isi "tuple" (.v 1))) (.or (.cmp .NotEq (.bi .len (.cons (.v 1) .nil)) (.c (.int 2))) (.not (.bi .all (.cons (.lc (.v 4) (.it (.v 1)) (.c (.bool true)) (.call 2 (.cons (.v 0) (.cons (.v 4) .nil))) [4]) .nil))))) [.d false (.int (p : Int)), .d false v, .e, .e, .e] s = .ok (.frz, .bool true) s → Ph (k + 5) 14 [.d (.int (p : Int)), .d v] s = .ok (false, .bool false) s := fun w hh => by
    refine st1 _ (congrArg endF (seq_ret (o := false) ?_))
    rw [ifs_t hh rfl]
    exact seq_ret (o := false) (ret_e (k := .frz) ev_c)
  cases v with
  | tuple xs =>
    by_cases hl : xs.length = 2
    · match xs, hl with
      | [y, z], _ =>
        have hy : Q1 y := hv.2 [y, z] rfl y (by simp)
        have hz : Q1 z := hv.2 [y, z] rfl z (by simp)
        have py := poly_is (p := p) (k + 1) s y (fun xs e => by have := hy xs e; omega)
        have pz := poly_is (p := p) (k + 1) s z (fun xs e => by have := hz xs e; omega)
        have ly := lpoly_is (p := p) (k' + 2) s y (fun xs e => by have := hy xs e; omega)
        have lz := lpoly_is (p := p) (k' + 2) s z (fun xs e => by have := hz xs e; omega)
        have lc := lc_gen (Φ := Ph (k + 4)) (Gg := G) (tg := .v 4) (it := .it (.v 1)) (cond := .c (.bool true)) (elt := .call 2 (.cons (.v 0) (.cons (.v 4) .nil))) (ws := [4]) (env := [.d false (.int (p : Int)), .d false (.tuple [y, z]), .e, .e, .e]) (s := s) (s1 := s) (pk := false) (xs := [y, z]) (p := fun _ => true) (g := fun x => .bool (isPo p x))
          (itF_e (v_e rfl) (.inl rfl) frzN) (by rw [sizeL]; show 2 ≤ _; omega) (fun x hx => ⟨[.d false (.int (p : Int)), .d false (.tuple [y, z]), .e, .e, .d false x], rfl, ⟨.frz, ev_c⟩, fun _ => ⟨.frz, frzN, call2 (x := (.frz, .int (p : Int))) (y := (.frz, x)) (o := false) (v_e rfl) frzN (v_e rfl) frzN (by
            rcases List.mem_cons.mp hx with rfl | hx
            · exact py
            · obtain rfl := List.mem_singleton.mp hx
              exact pz)⟩⟩)
        rw [filter_true] at lc
        have al := bi1 lc (all_ok [y, z] (isPo p))
        have nt : evE (Ph (k + 4)) G (.not (.isi "tuple" (.v 1))) [.d false (.int (p : Int)), .d false (.tuple [y, z]), .e, .e, .e] s = .ok (.frz, .bool false) s := isi_t (v_e rfl) rfl
        have n2 : evE (Ph (k + 4)) G (.cmp .NotEq (.bi .len (.cons (.v 1) .nil)) (.c (.int 2))) [.d false (.int (p : Int)), .d false (.tuple [y, z]), .e, .e, .e] s = .ok (.frz, .bool false) s := cmp_e (bi1 (x := (.frz, .tuple [y, z])) (v_e rfl) (len_t _)) ev_c (cnei rfl)
        have nt2 : evE (Ph (k' + 5)) G (.not (.isi "tuple" (.v 1))) [.d false (.int (p : Int)), .d false (.tuple [y, z])] s = .ok (.frz, .bool false) s := isi_t (v_e rfl) rfl
        have n22 : evE (Ph (k' + 5)) G (.cmp .NotEq (.bi .len (.cons (.v 1) .nil)) (.c (.int 2))) [.d false (.int (p : Int)), .d false (.tuple [y, z])] s = .ok (.frz, .bool false) s := cmp_e (bi1 (x := (.frz, .tuple [y, z])) (v_e rfl) (len_t _)) ev_c (cnei rfl)
        have first : evS (Ph (k' + 5)) G (.ifs (.or (.not (.isi "tuple" (.v 1))) (.cmp .NotEq (.bi .len (.cons (.v 1) .nil)) (.c (.int 2)))) (.seq (.ret (.c (.bool false))) .nil) .nil) [.d false (.int (p : Int)), .d false (.tuple [y, z])] s = .ok (.next [.d false (.int (p : Int)), .d false (.tuple [y, z])]) s := by
          rw [ifs_f (x := (.frz, .bool false)) (s' := s) ?_ rfl, ev_nil]
          rw [or_f nt2 rfl]
          exact n22
        have y0 : evE (Ph (k' + 5)) G (.sub (.v 1) (.c (.int 0))) [.d false (.int (p : Int)), .d false (.tuple [y, z])] s = .ok (.frz, y) s := sub_e (x := (.frz, .tuple [y, z])) (y := (.frz, .int 0)) (v_e rfl) ev_c (Tre.atI_nat [y, z] 0)
        have z1 : evE (Ph (k' + 5)) G (.sub (.v 1) (.c (.int 1))) [.d false (.int (p : Int)), .d false (.tuple [y, z])] s = .ok (.frz, z) s := sub_e (x := (.frz, .tuple [y, z])) (y := (.frz, .int 1)) (v_e rfl) ev_c (Tre.atI_nat [y, z] 1)
        by_cases hb : isPo p y = true ∧ isPo p z = true
        · obtain ⟨f, hf, ef⟩ := isPo_po hb.1
          obtain ⟨g, hg, eg⟩ := isPo_po hb.2
          subst ef eg
          have lf : ln f ≤ 900 := by have := hy _ rfl; rw [dt_len] at this; exact this
          have lg : ln g ≤ 900 := by have := hz _ rfl; rw [dt_len] at this; exact this
          obtain ⟨d, m, fd, _, ev⟩ := common_ok h (k + 1) s hf hg (B := 1000) (Nat.le_refl _) (by omega) (by omega)
          obtain ⟨d', m', fd', _, ev'⟩ := lcommon_ok h (k' + 1) s hf hg (B := 1000) (Nat.le_refl _) (by omega) (by omega)
          refine ⟨okFr f g, st1 _ ?_, st2 _ ?_, fun a b rd e => ?_⟩
          · unfold b_is_fraction
            rw [seq_next (env' := [.d false (.int (p : Int)), .d false (.tuple [po f, po g]), .e, .e, .e]) (s' := s) (by
              rw [ifs_f (x := (.frz, .bool false)) (s' := s) ?_ rfl, ev_nil]
              rw [or_f nt rfl, or_f n2 rfl]
              have := not_e al
              rw [show ([po f, po g].all (isPo p)) = true by simp [hb.1, hb.2]] at this
              exact this)]
            rw [seq_next (env' := [.d false (.int (p : Int)), .d false (.tuple [po f, po g]), .d false (po f), .d false (po g), .e]) (s' := s) (asg_e (x := (.frz, .tuple [po f, po g])) (v_e rfl) rfl)]
            exact congrArg endF (seq_ret (o := false) (ret_e (k := .frz) (and3_e h hf hg fd m (v_e rfl) (call3 (x := (.frz, .int (p : Int))) (y := (.frz, po f)) (z := (.frz, po g)) (o := false) (v_e rfl) frzN (v_e rfl) frzN (v_e rfl) frzN ev) (g_e gone))))
          · unfold b__law_is_one
            rw [seq_next first]
            rw [seq_next (env' := [.d false (.int (p : Int)), .d false (.tuple [po f, po g])]) (s' := s) (by
              rw [ifs_f (x := (.frz, .bool false)) (s' := s) ?_ rfl, ev_nil]
              have u1 := not_e (call2 (f := 43) (a := .v 0) (x := (.frz, .int (p : Int))) (y := (.frz, po f)) (o := false) (v_e rfl) frzN y0 frzN ly)
              have u2 := not_e (call2 (f := 43) (a := .v 0) (x := (.frz, .int (p : Int))) (y := (.frz, po g)) (o := false) (v_e rfl) frzN z1 frzN lz)
              rw [hb.1] at u1
              rw [hb.2] at u2
              rw [or_f u1 rfl]
              exact u2)]
            exact congrArg endF (seq_ret (o := false) (ret_e (k := .frz) (and3_e h hf hg fd' m' z1 (call3 (x := (.frz, .int (p : Int))) (y := (.frz, po f)) (z := (.frz, po g)) (o := false) (v_e rfl) frzN y0 frzN z1 frzN ev') (tup_e (ea_cons ev_c ea_nil) rfl (by rw [sizeL]; show 1 ≤ _; omega)))))
          · unfold fr at e
            injection e with e
            obtain ⟨e1, e⟩ := List.cons.inj e
            obtain ⟨e2, _⟩ := List.cons.inj e
            rw [po_eq hf rd.fa e1, po_eq hg rd.fb e2]
            exact okFr_red h rd
        · refine ⟨false, no true ?_, st2 _ ?_, fun a b rd e => ?_⟩
          · rw [or_f nt rfl, or_f n2 rfl]
            have := not_e al
            rw [show ([y, z].all (isPo p)) = false by
              rw [Bool.eq_false_iff]
              intro q
              simp at q
              exact hb q] at this
            exact this
          · unfold b__law_is_one
            rw [seq_next first]
            refine congrArg endF (seq_ret (o := false) ?_)
            rw [ifs_t (x := (.frz, .bool true)) (s' := s) ?_ rfl]
            · exact seq_ret (o := false) (ret_e (k := .frz) ev_c)
            · have u1 := not_e (call2 (f := 43) (a := .v 0) (x := (.frz, .int (p : Int))) (y := (.frz, y)) (o := false) (v_e rfl) frzN y0 frzN ly)
              have u2 := not_e (call2 (f := 43) (a := .v 0) (x := (.frz, .int (p : Int))) (y := (.frz, z)) (o := false) (v_e rfl) frzN z1 frzN lz)
              by_cases q : isPo p y = true
              · have q2 : isPo p z = false := by
                  rw [Bool.eq_false_iff]
                  exact fun w => hb ⟨q, w⟩
                rw [q] at u1
                rw [q2] at u2
                rw [or_f u1 rfl]
                exact u2
              · have q : isPo p y = false := by rw [Bool.eq_false_iff]; exact q
                rw [q] at u1
                exact or_t u1 rfl
          · unfold fr at e
            injection e with e
            obtain ⟨e1, e⟩ := List.cons.inj e
            obtain ⟨e2, _⟩ := List.cons.inj e
            exact absurd ⟨e1 ▸ po_isPo a rd.fa, e2 ▸ po_isPo b rd.fb⟩ hb
    · have nt : evE (Ph (k + 4)) G (.not (.isi "tuple" (.v 1))) [.d false (.int (p : Int)), .d false (.tuple xs), .e, .e, .e] s = .ok (.frz, .bool false) s := isi_t (v_e rfl) rfl
      have hne : ¬ ((xs.length : Nat) : Int) = 2 := by omega
      have n2 : evE (Ph (k + 4)) G (.cmp .NotEq (.bi .len (.cons (.v 1) .nil)) (.c (.int 2))) [.d false (.int (p : Int)), .d false (.tuple xs), .e, .e, .e] s = .ok (.frz, .bool true) s := cmp_e (bi1 (x := (.frz, .tuple xs)) (v_e rfl) (len_t _)) ev_c (cnei (by rw [dfa hne] <;> rfl))
      have nt2 : evE (Ph (k' + 5)) G (.not (.isi "tuple" (.v 1))) [.d false (.int (p : Int)), .d false (.tuple xs)] s = .ok (.frz, .bool false) s := isi_t (v_e rfl) rfl
      have n22 : evE (Ph (k' + 5)) G (.cmp .NotEq (.bi .len (.cons (.v 1) .nil)) (.c (.int 2))) [.d false (.int (p : Int)), .d false (.tuple xs)] s = .ok (.frz, .bool true) s := cmp_e (bi1 (x := (.frz, .tuple xs)) (v_e rfl) (len_t _)) ev_c (cnei (by rw [dfa hne] <;> rfl))
      refine ⟨false, no true ?_, st2 _ ?_, fun a b rd e => ?_⟩
      · rw [or_f nt rfl]
        exact or_t n2 rfl
      · unfold b__law_is_one
        refine congrArg endF (seq_ret (o := false) ?_)
        rw [ifs_t (x := (.frz, .bool true)) (s' := s) ?_ rfl]
        · exact seq_ret (o := false) (ret_e (k := .frz) ev_c)
        · rw [or_f nt2 rfl]
          exact n22
      · unfold fr at e
        injection e with e
        rw [e] at hl
        exact absurd rfl hl
  | _ =>
    refine ⟨false, no true (or_t (x := (.frz, .bool true)) (isi_t (v_e rfl) rfl) rfl), st2 _ ?_, fun a b _ e => by cases e⟩
    refine congrArg endF (seq_ret (o := false) ?_)
    rw [ifs_t (x := (.frz, .bool true)) (s' := s) (or_t (x := (.frz, .bool true)) (isi_t (v_e rfl) rfl) rfl) rfl]
    exact seq_ret (o := false) (ret_e (k := .frz) ev_c)
end
end K10
set_option maxHeartbeats 1000000
/-! K10N: drawn ones, bent ones. -/
namespace K10
open PySem PySem.Spec PyProof.Rows L2 Tre PT Pol
section
variable {p : Nat} [NeZero p]
/-- numbers by p are those of a series -/
theorem nums_ser {n : Nat} {φ : Nat → Int} (b : ∀ i, i < n → 0 ≤ φ i ∧ φ i < (p : Int)) : ∃ f : S p, Le f n ∧ ∀ i, i < n → φ i = cf f i := by
  refine ⟨⟨fun i => if i < n then fi p (φ i) else 0⟩, fun i hi => ?_, fun i hi => ?_⟩
  · show (if i < n then fi p (φ i) else 0) = 0
    rw [if_neg (by omega)]
  · have hc : (⟨fun i => if i < n then fi p (φ i) else 0⟩ : S p).c i = fi p (φ i) := by
      show (if i < n then fi p (φ i) else 0) = _
      rw [if_pos hi]
    unfold cf
    rw [hc, fi_val, Int.emod_eq_of_lt (b i hi).1 (b i hi).2]
theorem polynomial_ok (h : Pr p) (k : Nat) (s : Src) (m : Nat) (hm : m ≤ 100) : ∃ f s', Fs (f : S p) ∧ ln f ≤ m ∧ Ph (k + 2) 40 [.src, .d (.int (p : Int)), .d (.int (m : Nat))] s = .ok (false, po f) s' := by
  have h2 := h.two
  have h5 := h.le
  have pk := pick_ok k
  obtain ⟨j, s1, e1, j0, j1⟩ := pk s ((m : Nat) + 1) (by omega) (by omega)
  obtain ⟨n, rfl⟩ := Int.eq_ofNat_of_zero_le j0
  have st : ∀ X, endF (evS (Ph (k + 1)) G b__law_polynomial [.src, .d false (.int (p : Int)), .d false (.int (m : Nat)), .e] s) = X → Ph (k + 2) 40 [.src, .d (.int (p : Int)), .d (.int (m : Nat))] s = X := fun X h => h
  obtain ⟨ys, s2, lc, hl, hq⟩ := lc_inv (Φ := Ph (k + 1)) (Gg := G) (tg := .v 3) (it := .rng (.cons (.call 28 (.csrc 0 (.cons (.op .Add (.v 2) (.c (.int 1))) .nil))) .nil)) (elt := .call 28 (.csrc 0 (.cons (.v 1) .nil))) (ws := [3]) (env := [.src, .d false (.int (p : Int)), .d false (.int (m : Nat)), .e]) (s := s) (s1 := s1) (pk := false) (xs := rngD 0 n) (Q := fun y => isN p y = true)
    (rng1_e (k := .frz) (j := ((n : Nat) : Int)) (callS1 (x := (.frz, .int ((m : Nat) + 1))) (o := false) rfl (op_e (v_e rfl) ev_c (oa _ _)) frzN e1) (by omega)) (by rw [rng_dt, dt_len, sizeL]; omega) (fun x hx => by
      refine ⟨[.src, .d false (.int (p : Int)), .d false (.int (m : Nat)), .d false x], rfl, fun s => ?_⟩
      obtain ⟨i, s', e, i0, i1⟩ := pk s (p : Int) (by omega) (by omega)
      refine ⟨.frz, .int i, s', frzN, callS1 (x := (.frz, .int (p : Int))) (o := false) rfl (v_e rfl) frzN e, ?_⟩
      show (decide (0 ≤ i) && decide (i < (p : Int))) = true
      rw [dtr i0, dtr i1] <;> rfl)
  rw [rng_dt, dt_len] at hl
  obtain ⟨φ, ey, hb⟩ := nums_dt (List.all_eq_true.mpr hq)
  rw [hl] at ey hb
  obtain ⟨f, hf, ef⟩ := nums_ser hb
  have tr := ltrim_po (p := p) k s2 (row := .list ys) (N := n) (φ := φ) (h := f) (.inl (by rw [ey])) hf ef
  refine ⟨f, s2, ⟨n, hf⟩, by have := ln_min hf; omega, st _ ?_⟩
  unfold b__law_polynomial
  exact congrArg endF (seq_ret (o := false) (ret_e (k := .frz) (call1 (x := (.own, .list ys)) (o := false) lc ownN tr)))
/-- bottoms that are drawn -/
def Bot (p : Nat) [NeZero p] (n : Nat) (v : D) : Prop := ∃ b : S p, Fs b ∧ b.c 0 = 1 ∧ ln b ≤ n ∧ v = po b
theorem bot_of (h : Pr p) {xs : List D} {n : Nat} (h1 : isPo p (.tuple (.int 1 :: xs)) = true) (hn : xs.length + 1 ≤ n) : Bot p n (.tuple (.int 1 :: xs)) := by
  obtain ⟨f, hf, e⟩ := isPo_po h1
  have el : ln f = xs.length + 1 := by
    have := congrArg (fun v => match v with | PyData.tuple l => l.length | _ => 0) e
    simp only [po, dt_len, List.length_cons] at this
    exact this.symm
  refine ⟨f, hf, ?_, by omega, e⟩
  have := congrArg (fun v => match v with | PyData.tuple l => l[0]? | _ => none) e
  simp only [po, List.getElem?_cons_zero] at this
  rw [dt_get (by omega)] at this
  have : cf f 0 = 1 := by
    injection this with this
    injection this with this
    exact this.symm
  exact (cf0_one h).mp (dtr this)
theorem isN_1 (h : Pr p) : isN p (.int 1) = true := by
  have := h.two
  show (decide ((0 : Int) ≤ 1) && decide ((1 : Int) < (p : Int))) = true
  rw [dtr (by omega), dtr (by omega)] <;> rfl
theorem isN_p1 (h : Pr p) : isN p (.int ((p : Int) - 1)) = true := by
  have := h.two
  show (decide ((0 : Int) ≤ (p : Int) - 1) && decide ((p : Int) - 1 < (p : Int))) = true
  rw [dtr (by omega), dtr (by omega)] <;> rfl
theorem isN_0 (h : Pr p) : isN p (.int 0) = true := by
  have := h.two
  show (decide ((0 : Int) ≤ 0) && decide ((0 : Int) < (p : Int))) = true
  rw [dtr (by omega), dtr (by omega)] <;> rfl
theorem lastNz_p1 (h : Pr p) (xs : List D) : lastNz (xs ++ [.int ((p : Int) - 1)]) = true := by
  have := h.two
  unfold lastNz
  rw [List.getLast?_concat]
  split
  · rename_i q
    have := Option.some.inj q
    injection this with this
    omega
  · rfl
theorem drawn_ok (h : Pr p) (k : Nat) (s : Src) : ∃ a b s', Red (a : S p) b ∧ ln a ≤ 5 ∧ ln b ≤ 5 ∧ Ph (k + 6) 41 [.src, .d (.int (p : Int)), .d (.int 5)] s = .ok (false, fr a b) s' := by
  have h2 := h.two
  have st : ∀ X, endF (evS (Ph (k + 5)) G b__law_drawn [.src, .d false (.int (p : Int)), .d false (.int 5), .e] s) = X → Ph (k + 6) 41 [.src, .d (.int (p : Int)), .d (.int 5)] s = X := fun X h => h
  obtain ⟨t, s1, ft, lt, e1⟩ := polynomial_ok h (k + 3) s 4 (by omega)
  have e1 : Ph (k + 5) 40 [.src, .d (.int (p : Int)), .d (.int 4)] s = .ok (false, po t) s1 := e1
  obtain ⟨bs, hbs⟩ : ∃ bs : List D, bs = [.tuple [.int 1], .tuple [.int 1, .int ((p : Int) - 1)], .tuple [.int 1, .int 1, .int 1], .tuple [.int 1, .int 0, .int ((p : Int) - 1)], .tuple (.int 1 :: dt (ln t) (cf t))] := ⟨_, rfl⟩
  have hb : ∀ v ∈ bs, Bot p 5 v := by
    intro v hv
    rw [hbs] at hv
    simp only [List.mem_cons, List.not_mem_nil, or_false] at hv
    have i1 := isN_1 h
    have ip := isN_p1 h
    have i0 := isN_0 h
    rcases hv with rfl | rfl | rfl | rfl | rfl
    · exact bot_of h (by show ([PyData.int 1].all (isN p) && lastNz [.int 1]) = true; simp [i1]; rfl) (by simp)
    · refine bot_of h ?_ (by simp)
      show ([PyData.int 1, .int ((p : Int) - 1)].all (isN p) && lastNz ([.int 1] ++ [.int ((p : Int) - 1)])) = true
      rw [lastNz_p1 h]
      simp [i1, ip]
    · exact bot_of h (by show ([PyData.int 1, .int 1, .int 1].all (isN p) && lastNz [.int 1, .int 1, .int 1]) = true; simp [i1]; rfl) (by simp)
    · refine bot_of h ?_ (by simp)
      show ([PyData.int 1, .int 0, .int ((p : Int) - 1)].all (isN p) && lastNz ([.int 1, .int 0] ++ [.int ((p : Int) - 1)])) = true
      rw [lastNz_p1 h]
      simp [i1, ip, i0]
    · refine bot_of h ?_ (by rw [dt_len]; omega)
      have q := po_isPo t ft
      have q : ((dt (ln t) (cf t)).all (isN p) && lastNz (dt (ln t) (cf t))) = true := q
      rw [Bool.and_eq_true] at q
      show ((PyData.int 1 :: dt (ln t) (cf t)).all (isN p) && lastNz (.int 1 :: dt (ln t) (cf t))) = true
      rw [Bool.and_eq_true, List.all_cons, i1]
      refine ⟨by simpa using q.1, ?_⟩
      cases hd : dt (ln t) (cf t) with
      | nil => rfl
      | cons y ys =>
        rw [hd] at q
        have e : lastNz (.int 1 :: y :: ys) = lastNz (y :: ys) := by
          unfold lastNz
          rw [List.getLast?_cons_cons]
        rw [e]
        exact q.2
  have es : evE (Ph (k + 5)) G (.lst (.cons (.tup (.cons (.c (.int 1)) .nil)) (.cons (.tup (.cons (.c (.int 1)) (.cons (.op .Sub (.v 1) (.c (.int 1))) .nil))) (.cons (.tup (.cons (.c (.int 1)) (.cons (.c (.int 1)) (.cons (.c (.int 1)) .nil)))) (.cons (.tup (.cons (.c (.int 1)) (.cons (.c (.int 0)) (.cons (.op .Sub (.v 1) (.c (.int 1))) .nil)))) (.cons (.op .Add (.tup (.cons (.c (.int 1)) .nil)) (.call 40 (.csrc 0 (.cons (.v 1) (.cons (.op .Sub (.v 2) (.c (.int 1))) .nil))))) .nil)))))) [.src, .d false (.int (p : Int)), .d false (.int 5), .e] s = .ok (.own, .list bs) s1 := by
    have c5 : evE (Ph (k + 5)) G (.call 40 (.csrc 0 (.cons (.v 1) (.cons (.op .Sub (.v 2) (.c (.int 1))) .nil)))) [.src, .d false (.int (p : Int)), .d false (.int 5), .e] s = .ok (.frz, po t) s1 := by
      have v1 := v_e (Φ := Ph (k + 5)) (Gg := G) (env := [.src, .d false (.int (p : Int)), .d false (.int 5), .e]) (s := s) (i := 1) (d := .int (p : Int)) rfl
      have v2 := op_e (Φ := Ph (k + 5)) (Gg := G) (a := .v 2) (b := .c (.int 1)) (env := [.src, .d false (.int (p : Int)), .d false (.int 5), .e]) (s := s) (s1 := s) (s2 := s) (o := .Sub) (x := (.frz, .int 5)) (y := (.frz, .int 1)) (v_e rfl) ev_c (os 5 1)
      simp only [evE, evG, List.getElem?_cons_zero, v1, R.bind_ok] at v1 v2 ⊢
      simp only [v1, v2, R.bind_ok, if_neg frzN]
      rw [show (5 : Int) - 1 = 4 by omega, e1]
      rfl
    have o5 : opF .Add (.tuple [.int 1]) (po t) = some (.frz, .tuple (.int 1 :: dt (ln t) (cf t))) := opF_tup [.int 1] (dt (ln t) (cf t)) (by rw [dt_len, sizeL]; show 1 + ln t ≤ _; omega)
    rw [hbs]
    have sz : ∀ n, n ≤ 5 → n ≤ sizeLine := fun n hn => by rw [sizeL]; omega
    exact lst_e (ea_cons (tup_e (ea_cons ev_c ea_nil) rfl (sz 1 (by omega))) (ea_cons (tup_e (ea_cons ev_c (ea_cons (op_e (v_e rfl) ev_c (os _ _)) ea_nil)) rfl (sz 2 (by omega))) (ea_cons (tup_e (ea_cons ev_c (ea_cons ev_c (ea_cons ev_c ea_nil))) rfl (sz 3 (by omega))) (ea_cons (tup_e (ea_cons ev_c (ea_cons ev_c (ea_cons (op_e (v_e rfl) ev_c (os _ _)) ea_nil))) rfl (sz 3 (by omega))) (ea_cons (op_e (tup_e (ea_cons ev_c ea_nil) rfl (sz 1 (by omega))) c5 o5) ea_nil))))) rfl (sz 5 (by omega))
  obtain ⟨f, s2, ff, lf, e2⟩ := polynomial_ok h (k + 3) s1 5 (by omega)
  have e2 : Ph (k + 5) 40 [.src, .d (.int (p : Int)), .d (.int 5)] s1 = .ok (false, po f) s2 := e2
  obtain ⟨v, s3, e3, hv⟩ := of_ok (k + 3) s2 bs (by rw [hbs]; simp) (by rw [hbs]; simp)
  obtain ⟨b, fb, b0, lb, rfl⟩ := hb v hv
  obtain ⟨o, fo, lo, ev⟩ := lfraction_ok h (k + 0) s3 ff fb (by omega) (by omega)
  obtain ⟨u, w, rfl, ru, _⟩ := fo.fit1 h.F b0
  obtain ⟨q1, q2⟩ := lo u w rfl
  refine ⟨u, w, s3, ru, by omega, by omega, st _ ?_⟩
  unfold b__law_drawn
  rw [seq_next (env' := [.src, .d false (.int (p : Int)), .d false (.int 5), .d false (.list bs)]) (s' := s1) (asg_e es rfl)]
  have c2 : evE (Ph (k + 5)) G (.call 40 (.csrc 0 (.cons (.v 1) (.cons (.v 2) .nil)))) [.src, .d false (.int (p : Int)), .d false (.int 5), .d false (.list bs)] s1 = .ok (.frz, po f) s2 := by
    simp only [evE, evG, List.getElem?_cons_zero, List.getElem?_cons_succ, R.bind_ok, if_neg frzN]
    rw [e2]
    rfl
  have c3 : evE (Ph (k + 5)) G (.call 29 (.csrc 0 (.cons (.v 3) .nil))) [.src, .d false (.int (p : Int)), .d false (.int 5), .d false (.list bs)] s2 = .ok (.frz, po b) s3 := callS1 (x := (.frz, .list bs)) (o := false) rfl (v_e rfl) frzN e3
  exact congrArg endF (seq_ret (o := false) (ret_e (k := .frz) (call3 (x := (.frz, .int (p : Int))) (y := (.frz, po f)) (z := (.frz, po b)) (o := false) (v_e rfl) frzN c2 frzN c3 frzN ev)))
end
/-! ### bent values -/
def ODD : List D := [.none, .bool true, .bool false, .int 0, .int 1, .int 2, .int 4, .int 5, .int (-1), .str "1", .tuple [], .tuple [.int 1], .tuple [.int 0], .list [.int 1], .tuple [.tuple [], .tuple [.int 1]], .tuple [.tuple [.int 1], .tuple [.int 2]], .tuple [.tuple [.int 0, .int 1], .tuple [.int 0, .int 1]]]
theorem bent_step {Φ : Nat → List Tre.Arg → Src → R (Bool × D)} (hp : Picks (Φ 28)) (ho : Ofs (Φ 29)) (E : D → Prop) (v : D) (s : Src) (hr : ∀ xs, v = .tuple xs → xs.length ≤ 900 ∧ ∀ x ∈ xs, ∀ s, ∃ w s', Φ 45 [.src, .d x] s = .ok (false, w) s' ∧ E w) :
    ∃ w s', endF (evS Φ G b__law_bent [.src, .d false v, .e, .e, .e] s) = .ok (false, w) s' ∧ (w ∈ ODD ∨ ∃ xs ys, v = .tuple xs ∧ w = .tuple ys ∧ ys.length ≤ xs.length + 1 ∧ ∀ y ∈ ys, y ∈ xs ∨ E y) := by
  unfold b__law_bent
  have odd : ∀ env : Tre.Env, evE Φ G (.lst (.cons (.c .none) (.cons (.c (.bool true)) (.cons (.c (.bool false)) (.cons (.c (.int 0)) (.cons (.c (.int 1)) (.cons (.c (.int 2)) (.cons (.c (.int 4)) (.cons (.c (.int 5)) (.cons (.neg (.c (.int 1))) (.cons (.c (.str "1")) (.cons (.tup .nil) (.cons (.tup (.cons (.c (.int 1)) .nil)) (.cons (.tup (.cons (.c (.int 0)) .nil)) (.cons (.lst (.cons (.c (.int 1)) .nil)) (.cons (.tup (.cons (.tup .nil) (.cons (.tup (.cons (.c (.int 1)) .nil)) .nil))) (.cons (.tup (.cons (.tup (.cons (.c (.int 1)) .nil)) (.cons (.tup (.cons (.c (.int 2)) .nil)) .nil))) (.cons (.tup (.cons (.tup (.cons (.c (.int 0)) (.cons (.c (.int 1)) .nil))) (.cons (.tup (.cons (.c (.int 0)) (.cons (.c (.int 1)) .nil))) .nil))) .nil)))))))))))))))))) env s = .ok (.own, .list ODD) s := fun env => by
    simp [evE, evA, noPeek, R.of, sizeL, ODD]
  rw [seq_next (env' := [.src, .d false v, .d false (.list ODD), .e, .e]) (s' := s) (asg_e (odd _) rfl)]
  have of_ : ∀ s, ∃ w s', endF (evS Φ G (.seq (.ret (.call 29 (.csrc 0 (.cons (.v 2) .nil)))) .nil) [.src, .d false v, .d false (.list ODD), .e, .e] s) = .ok (false, w) s' ∧ w ∈ ODD := fun s => by
    obtain ⟨w, s', e, hw⟩ := ho s ODD (by simp [ODD]) (by simp [ODD])
    exact ⟨w, s', congrArg endF (seq_ret (o := false) (ret_e (k := .frz) (callS1 (x := (.frz, .list ODD)) (o := false) rfl (v_e rfl) frzN e))), hw⟩
  have out : ∀ s1 rest, evE Φ G (.or (.not (.isi "tuple" (.v 1))) (.or (.cmp .Eq (.v 1) (.tup .nil)) (.cmp .Eq (.call 28 (.csrc 0 (.cons (.c (.int 4)) .nil))) (.c (.int 0))))) [.src, .d false v, .d false (.list ODD), .e, .e] s = .ok (.frz, .bool true) s1 →
      ∃ w s', endF (evS Φ G (.seq (.ifs (.or (.not (.isi "tuple" (.v 1))) (.or (.cmp .Eq (.v 1) (.tup .nil)) (.cmp .Eq (.call 28 (.csrc 0 (.cons (.c (.int 4)) .nil))) (.c (.int 0))))) (.seq (.ret (.call 29 (.csrc 0 (.cons (.v 2) .nil)))) .nil) .nil) rest) [.src, .d false v, .d false (.list ODD), .e, .e] s) = .ok (false, w) s' ∧ (w ∈ ODD ∨ ∃ xs ys, v = .tuple xs ∧ w = .tuple ys ∧ ys.length ≤ xs.length + 1 ∧ ∀ y ∈ ys, y ∈ xs ∨ E y) := fun s1 rest e => by
    obtain ⟨w, s', e2, hw⟩ := ho s1 ODD (by simp [ODD]) (by simp [ODD])
    refine ⟨w, s', congrArg endF (seq_ret (o := false) ?_), .inl hw⟩
    rw [ifs_t e rfl]
    exact seq_ret (o := false) (ret_e (k := .frz) (callS1 (x := (.frz, .list ODD)) (o := false) rfl (v_e rfl) frzN e2))
  cases v with
  | tuple xs =>
    obtain ⟨hl, hx⟩ := hr xs rfl
    have nt : ∀ s, evE Φ G (.not (.isi "tuple" (.v 1))) [.src, .d false (.tuple xs), .d false (.list ODD), .e, .e] s = .ok (.frz, .bool false) s := fun s => isi_t (v_e rfl) rfl
    by_cases h0 : xs = []
    · refine out s _ ?_
      rw [or_f (nt s) rfl]
      refine or_t (x := (.frz, .bool true)) (cmp_e (v_e rfl) tup0_e (ceq ?_)) rfl
      rw [eqF_tn, h0]
      rfl
    · have hl0 : 0 < xs.length := List.length_pos_iff.mpr h0
      have ne : evE Φ G (.cmp .Eq (.v 1) (.tup .nil)) [.src, .d false (.tuple xs), .d false (.list ODD), .e, .e] s = .ok (.frz, .bool false) s := cmp_e (v_e rfl) tup0_e (ceq (by rw [eqF_tn, List.isEmpty_eq_false_iff.mpr h0]))
      obtain ⟨i, s1, e1, i0, i1⟩ := hp s 4 (by omega) (by omega)
      have c4 : evE Φ G (.cmp .Eq (.call 28 (.csrc 0 (.cons (.c (.int 4)) .nil))) (.c (.int 0))) [.src, .d false (.tuple xs), .d false (.list ODD), .e, .e] s = .ok (.frz, .bool (decide (i = 0))) s1 := cmp_e (callS1 (x := (.frz, .int 4)) (o := false) rfl ev_c frzN e1) ev_c (ceqi rfl)
      by_cases hi : i = 0
      · rw [dtr hi] at c4
        refine out s1 _ ?_
        rw [or_f (nt s) rfl, or_f ne rfl]
        exact c4
      · rw [dfa hi] at c4
        rw [seq_next (env' := [.src, .d false (.tuple xs), .d false (.list ODD), .e, .e]) (s' := s1) (by
          rw [ifs_f (x := (.frz, .bool false)) (s' := s1) ?_ rfl, ev_nil]
          rw [or_f (nt s) rfl, or_f ne rfl]
          exact c4)]
        obtain ⟨k0, s2, e2, k1, k2⟩ := hp s1 (xs.length : Nat) (by omega) (by omega)
        obtain ⟨m, rfl⟩ := Int.eq_ofNat_of_zero_le k1
        have hm : m < xs.length := by omega
        obtain ⟨w0, s3, e3, w1, w2⟩ := hp s2 6 (by omega) (by omega)
        rw [seq_next (env' := [.src, .d false (.tuple xs), .d false (.list ODD), .d false (.int (m : Nat)), .d false (.int w0)]) (s' := s3) (par_e (ea_cons (callS1 (x := (.frz, .int (xs.length : Nat))) (o := false) rfl (bi1 (x := (.frz, .tuple xs)) (v_e rfl) (len_t xs)) frzN e2) (ea_cons (callS1 (x := (.frz, .int 6)) (o := false) rfl ev_c frzN e3) ea_nil)) rfl)]
        rw [fz_e (env' := [.src, .d false (.tuple xs), .d false (.list ODD), .d false (.int (m : Nat)), .d false (.int w0)]) rfl]
        have hi' : ∀ s, evE Φ G (.sl (.v 1) .nil (.cons (.v 3) .nil)) [.src, .d false (.tuple xs), .d false (.list ODD), .d false (.int (m : Nat)), .d false (.int w0)] s = .ok (.frz, .tuple (xs.take m)) s := fun s => slh_e (k := .frz) (v_e rfl) (v_e rfl) rfl
        have lo' : ∀ s, evE Φ G (.sl (.v 1) (.cons (.op .Add (.v 3) (.c (.int 1))) .nil) .nil) [.src, .d false (.tuple xs), .d false (.list ODD), .d false (.int (m : Nat)), .d false (.int w0)] s = .ok (.frz, .tuple (xs.drop (m + 1))) s := fun s => sll_e (k := .frz) (m := m + 1) (v_e rfl) (op_e (v_e rfl) ev_c (oa _ _)) rfl
        have at' : ∀ s, evE Φ G (.sub (.v 1) (.v 3)) [.src, .d false (.tuple xs), .d false (.list ODD), .d false (.int (m : Nat)), .d false (.int w0)] s = .ok (.frz, xs[m]) s := fun s => sub_e (x := (.frz, .tuple xs)) (y := (.frz, .int (m : Nat))) (v_e rfl) (v_e rfl) ((Tre.atI_nat xs m).trans (List.getElem?_eq_getElem hm))
        have ltk : (xs.take m).length ≤ 900 := by rw [List.length_take]; omega
        have ldr : (xs.drop (m + 1)).length ≤ 900 := by rw [List.length_drop]; omega
        have l3 : ∀ n, n ≤ 3000 → n ≤ sizeLine := fun n h => by rw [sizeL]; omega
        by_cases hw0 : w0 = 0
        · refine ⟨.tuple (xs.take m ++ xs.drop (m + 1)), s3, congrArg endF (seq_ret (o := false) ?_), .inr ⟨xs, xs.take m ++ xs.drop (m + 1), rfl, rfl, ?_, ?_⟩⟩
          · rw [ifs_t (x := (.frz, .bool true)) (s' := s3) (cmp_e (v_e rfl) ev_c (ceqi (dtr hw0))) rfl]
            exact seq_ret (o := false) (ret_e (k := .frz) (op_e (hi' s3) (lo' s3) (opF_tup _ _ (l3 _ (by omega)))))
          · rw [List.length_append, List.length_take, List.length_drop]; omega
          · intro y hy
            rcases List.mem_append.mp hy with hy | hy
            · exact .inl (List.mem_of_mem_take hy)
            · exact .inl (List.mem_of_mem_drop hy)
        · rw [seq_next (env' := [.src, .d false (.tuple xs), .d false (.list ODD), .d false (.int (m : Nat)), .d false (.int w0)]) (s' := s3) (by
            rw [ifs_f (x := (.frz, .bool false)) (s' := s3) (cmp_e (v_e rfl) ev_c (ceqi (dfa hw0))) rfl, ev_nil])]
          by_cases hw1 : w0 = 1
          · refine ⟨.tuple (xs.take m ++ [xs[m], xs[m]] ++ xs.drop (m + 1)), s3, congrArg endF (seq_ret (o := false) ?_), .inr ⟨xs, xs.take m ++ [xs[m], xs[m]] ++ xs.drop (m + 1), rfl, rfl, ?_, ?_⟩⟩
            · rw [ifs_t (x := (.frz, .bool true)) (s' := s3) (cmp_e (v_e rfl) ev_c (ceqi (dtr hw1))) rfl]
              exact seq_ret (o := false) (ret_e (k := .frz) (op_e (op_e (hi' s3) (tup2_e (x := (.frz, xs[m])) (y := (.frz, xs[m])) (at' s3) frzN (at' s3) frzN) (opF_tup _ _ (l3 _ (by show (xs.take m).length + 2 ≤ 3000; omega)))) (lo' s3) (opF_tup _ _ (l3 _ (by rw [List.length_append]; show (xs.take m).length + 2 + _ ≤ 3000; omega)))))
            · simp only [List.length_append, List.length_take, List.length_drop, List.length_cons, List.length_nil]; omega
            · intro y hy
              rcases List.mem_append.mp hy with hy | hy
              · rcases List.mem_append.mp hy with hy | hy
                · exact .inl (List.mem_of_mem_take hy)
                · simp only [List.mem_cons, List.not_mem_nil, or_false, or_self] at hy
                  rw [hy]
                  exact .inl (List.getElem_mem hm)
              · exact .inl (List.mem_of_mem_drop hy)
          · rw [seq_next (env' := [.src, .d false (.tuple xs), .d false (.list ODD), .d false (.int (m : Nat)), .d false (.int w0)]) (s' := s3) (by
              rw [ifs_f (x := (.frz, .bool false)) (s' := s3) (cmp_e (v_e rfl) ev_c (ceqi (dfa hw1))) rfl, ev_nil])]
            obtain ⟨w, s4, e4, hE⟩ := hx xs[m] (List.getElem_mem hm) s3
            refine ⟨.tuple (xs.take m ++ [w] ++ xs.drop (m + 1)), s4, congrArg endF (seq_ret (o := false) ?_), .inr ⟨xs, xs.take m ++ [w] ++ xs.drop (m + 1), rfl, rfl, ?_, ?_⟩⟩
            · exact ret_e (k := .frz) (op_e (op_e (hi' s3) (tup_e (ea_cons (callS1 (x := (.frz, xs[m])) (o := false) rfl (at' s3) frzN e4) ea_nil) rfl (l3 1 (by omega))) (opF_tup _ _ (l3 _ (by show (xs.take m).length + 1 ≤ 3000; omega)))) (lo' s4) (opF_tup _ _ (l3 _ (by rw [List.length_append]; show (xs.take m).length + 1 + _ ≤ 3000; omega))))
            · simp only [List.length_append, List.length_take, List.length_drop, List.length_cons, List.length_nil]; omega
            · intro y hy
              rcases List.mem_append.mp hy with hy | hy
              · rcases List.mem_append.mp hy with hy | hy
                · exact .inl (List.mem_of_mem_take hy)
                · rw [List.mem_singleton.mp hy]
                  exact .inr hE
              · exact .inl (List.mem_of_mem_drop hy)
  | _ => exact out s _ (or_t (x := (.frz, .bool true)) (isi_t (v_e rfl) rfl) rfl)
end K10
set_option maxHeartbeats 1000000
/-! K10O: bent fractions; polynomials right. -/
namespace K10
open PySem PySem.Spec PyProof.Rows L2 Tre PT Pol
theorem odd_q {w : D} (h : w ∈ ODD) : Q1 w ∧ Q2 w := by
  have key : ∀ w ∈ ODD, (∀ xs, w = .tuple xs → xs.length ≤ 2 ∧ ∀ x ∈ xs, ∀ ys, x = .tuple ys → ys.length ≤ 2) := by
    intro w hw
    simp only [ODD, List.mem_cons, List.not_mem_nil, or_false] at hw
    rcases hw with rfl | rfl | rfl | rfl | rfl | rfl | rfl | rfl | rfl | rfl | rfl | rfl | rfl | rfl | rfl | rfl | rfl
    all_goals first
      | (intro xs e; cases e; done)
      | (intro xs e; injection e with e; subst e; refine ⟨by simp, fun x hx ys ey => ?_⟩; simp only [List.mem_cons, List.not_mem_nil, or_false] at hx <;> first | (subst hx; cases ey; done) | (subst hx; injection ey with ey; subst ey; simp) | (rcases hx with hx | hx <;> (subst hx; injection ey with ey; subst ey; simp)))
  have k := key w h
  refine ⟨fun xs e => by have := (k xs e).1; omega, fun xs e => by have := (k xs e).1; omega, fun xs e x hx ys ey => by have := (k xs e).2 x hx ys ey; omega⟩
section
variable {p : Nat} [NeZero p]
theorem bent_int (k : Nat) (i : Int) (s : Src) : ∃ w s', Ph (k + 3) 45 [.src, .d (.int i)] s = .ok (false, w) s' ∧ w ∈ ODD := by
  obtain ⟨w, s', e, hw⟩ := bent_step (pick_ok (k + 1)) (of_ok k) (fun _ => True) (.int i) s (fun xs e => by cases e)
  refine ⟨w, s', e, ?_⟩
  rcases hw with hw | ⟨xs, ys, e, _⟩
  · exact hw
  · cases e
theorem bent_po (k : Nat) {f : S p} (hl : ln f ≤ 100) (s : Src) : ∃ w s', Ph (k + 4) 45 [.src, .d (po f)] s = .ok (false, w) s' ∧ Q1 w := by
  obtain ⟨w, s', e, hw⟩ := bent_step (pick_ok (k + 2)) (of_ok (k + 1)) (fun _ => True) (po f) s (fun xs e => by
    unfold po at e
    injection e with e
    subst e
    refine ⟨by rw [dt_len]; omega, fun x hx s => ?_⟩
    obtain ⟨i, _, rfl⟩ := List.mem_map.mp hx
    obtain ⟨w, s', e, _⟩ := bent_int k (cf f i) s
    exact ⟨w, s', e, trivial⟩)
  refine ⟨w, s', e, ?_⟩
  rcases hw with hw | ⟨xs, ys, e1, e2, hl2, _⟩
  · exact (odd_q hw).1
  · unfold po at e1
    injection e1 with e1
    subst e1
    rw [dt_len] at hl2
    intro zs ez
    rw [e2] at ez
    injection ez with ez
    subst ez
    omega
theorem bent_ok (k : Nat) {a b : S p} (hl : ln a ≤ 100) (hl' : ln b ≤ 100) (s : Src) : ∃ w s', Ph (k + 5) 45 [.src, .d (fr a b)] s = .ok (false, w) s' ∧ Q2 w := by
  obtain ⟨w, s', e, hw⟩ := bent_step (pick_ok (k + 3)) (of_ok (k + 2)) Q1 (fr a b) s (fun xs e => by
    unfold fr at e
    injection e with e
    subst e
    refine ⟨by simp, fun x hx s => ?_⟩
    simp only [List.mem_cons, List.not_mem_nil, or_false] at hx
    rcases hx with rfl | rfl
    · exact bent_po k hl s
    · exact bent_po k hl' s)
  refine ⟨w, s', e, ?_⟩
  have q1 : ∀ f : S p, ln f ≤ 100 → Q1 (po f) := fun f hf zs ez => by
    unfold po at ez
    injection ez with ez
    subst ez
    rw [dt_len]; omega
  rcases hw with hw | ⟨xs, ys, e1, e2, hl2, hm⟩
  · exact (odd_q hw).2
  · unfold fr at e1
    injection e1 with e1
    subst e1
    have hl2 : ys.length ≤ 3 := hl2
    refine ⟨fun zs ez => ?_, fun zs ez x hx => ?_⟩
    · rw [e2] at ez
      injection ez with ez
      subst ez
      omega
    · rw [e2] at ez
      injection ez with ez
      subst ez
      rcases hm x hx with h | h
      · simp only [List.mem_cons, List.not_mem_nil, or_false] at h
        rcases h with rfl | rfl
        · exact q1 _ hl
        · exact q1 _ hl'
      · exact h
/-! ### shown -/
theorem sm_po (h : Pr p) {f : S p} (hl : ln f ≤ 200) : Sm 3 7000 (po f) := by
  refine (Sm.tuple (k := 0) (w := 30) (n := 200) (fun x hx => ?_) (by rw [dt_len]; exact hl)).mono (by omega) (by omega)
  obtain ⟨i, _, rfl⟩ := List.mem_map.mp hx
  have := cf_small h f i
  exact Sm.int (by omega)
theorem sm_dt {m : Nat} (h : Pr p) (f : S p) (hl : m ≤ 200) : Sm 3 7000 (.tuple (dt m (cf f))) := by
  refine (Sm.tuple (k := 0) (w := 30) (n := 200) (fun x hx => ?_) (by rw [dt_len]; exact hl)).mono (by omega) (by omega)
  obtain ⟨i, _, rfl⟩ := List.mem_map.mp hx
  have := cf_small h f i
  exact Sm.int (by omega)
theorem sm_fr (h : Pr p) {a b : S p} (l1 : ln a ≤ 200) (l2 : ln b ≤ 200) : Sm 4 20000 (fr a b) := by
  refine (Sm.tuple (k := 3) (w := 7000) (n := 2) (fun x hx => ?_) (by simp)).mono (by omega) (by omega)
  simp only [List.mem_cons, List.not_mem_nil, or_false] at hx
  rcases hx with rfl | rfl
  · exact sm_po h l1
  · exact sm_po h l2
theorem sm_pw {o : Option Nat} (hl : ∀ v, o = some v → v ≤ 10000) : Sm 3 7000 (pwD o) := by
  cases o with
  | none => exact Sm.none.mono (by omega) (by omega)
  | some v => exact (Sm.int (by have := hl v rfl; omega)).mono (by omega) (by omega)
theorem sm_list {xs : List D} (h : ∀ x ∈ xs, Sm 4 20000 x) (hl : xs.length ≤ 10) : Sm 5 300000 (.list xs) := (Sm.list h hl).mono (by omega) (by omega)
end
section
variable {Φ : Nat → List Tre.Arg → Src → R (Bool × D)} {Gg : Nat → Option D} {a b c r : T} {env : Tre.Env} {s s1 s2 : Src} {k1 k2 : Kd} {d : D}
theorem eqS (x : Str) : eqF (.str x) (.str x) = some true := by rw [eqF_str, beq_self_eq_true]
theorem repr_ne (h1 : evE Φ Gg a env s = .ok (k1, d) s1) (h2 : evE Φ Gg b env s1 = .ok (k2, d) s2) (sm : Sm 5 300000 d) : evE Φ Gg (.cmp .NotEq (.bi .repr (.cons a .nil)) (.bi .repr (.cons b .nil))) env s = .ok (.frz, .bool false) s2 :=
  cmp_e (bi1 h1 (shown_ok sm (by omega) (by omega))) (bi1 h2 (shown_ok sm (by omega) (by omega))) (cne (eqS _))
theorem repr_eq (h1 : evE Φ Gg a env s = .ok (k1, d) s1) (h2 : evE Φ Gg b env s1 = .ok (k2, d) s2) (sm : Sm 5 300000 d) : evE Φ Gg (.cmp .Eq (.bi .repr (.cons a .nil)) (.bi .repr (.cons b .nil))) env s = .ok (.frz, .bool true) s2 :=
  cmp_e (bi1 h1 (shown_ok sm (by omega) (by omega))) (bi1 h2 (shown_ok sm (by omega) (by omega))) (ceq (eqS _))
theorem chk_next {x : T} (h : evE Φ Gg c env s = .ok (.frz, .bool false) s1) : evS Φ Gg (.seq (.ifs c x .nil) r) env s = evS Φ Gg r env s1 :=
  seq_next (by rw [ifs_f h rfl, ev_nil])
end
section
variable {p : Nat} [NeZero p]
theorem inv_rows (h : Pr p) (k : Nat) (s : Src) (n : Nat) (hn : n = 4 ∨ n = 35) (env : Tre.Env) (e1 : env[1]? = some (.d false (.int (p : Int)))) (hl : env.length = 8) :
    evE (Ph (k + 1)) G (.lc (.v 6) (.rng (.cons (.c (.int 1)) (.cons (.v 1) .nil))) (.c (.bool true)) (.call n (.cons (.v 1) (.cons (.v 6) .nil))) [6]) env s = .ok (.own, .list (dt (p - 1) fun i => ((inv (fi p (1 + (i : Nat)))).val : Int))) s := by
  have h2 := h.two
  have h5 := h.le
  refine lc_dt (pk := false) (xs := rngD 1 ((p : Int) - 1).toNat) (rng2_e ev_c (v_e e1) (by omega) (by omega)) (by rw [rng_dt, dt_len]; omega) (by rw [sizeL]; omega) (fun i x hx => ?_)
  rw [rng_dt] at hx
  have hi := dt_ltlen hx
  rw [dt_get hi] at hx
  cases hx
  have ev : ((fi p (1 + (i : Nat) : Int)).val : Int) = 1 + (i : Nat) := by
    rw [fi_val, Int.emod_eq_of_lt (by omega) (by omega)]
  have hz : fi p (1 + (i : Nat) : Int) ≠ 0 := fun z => by
    rw [z] at ev
    have : ((0 : _root_.Fin p).val : Int) = 0 := rfl
    omega
  refine ⟨env.set 6 .e |>.set 6 (.d false (.int (1 + (i : Nat)))), ?_, ?_⟩
  · simp [bindT, putE, klE, hl]
  · have g1 : (env.set 6 .e |>.set 6 (.d false (.int (1 + (i : Nat)))))[1]? = some (.d false (.int (p : Int))) := by
      rw [List.getElem?_set_ne (by omega), List.getElem?_set_ne (by omega), e1]
    have g6 : (env.set 6 .e |>.set 6 (.d false (.int (1 + (i : Nat)))))[6]? = some (.d false (.int (1 + (i : Nat)))) := by
      rw [List.getElem?_set_self (by rw [List.length_set, hl]; omega)]
    rcases hn with rfl | rfl
    · have := inverse_ok h k s hz
      rw [ev] at this
      exact call2 (x := (.frz, .int (p : Int))) (y := (.frz, .int (1 + (i : Nat)))) (o := false) (v_e g1) frzN (v_e g6) frzN this
    · have := linverse_ok h k s hz
      rw [ev] at this
      exact call2 (x := (.frz, .int (p : Int))) (y := (.frz, .int (1 + (i : Nat)))) (o := false) (v_e g1) frzN (v_e g6) frzN this
theorem pw_small {f : S p} {o : Option Nat} (hf : Fs f) (hl : ln f ≤ 10000) (h : Pw f o) : ∀ v, o = some v → v ≤ 10000 := fun v e => by
  subst e
  refine Classical.byContradiction fun z => h.1 (ln_le hf v (by omega))
theorem polys_right (h : Pr p) (k : Nat) (s : Src) {f g : S p} (hf : Fs f) (hg : Fs g) (lf : ln f ≤ 50) (lg : ln g ≤ 50) : ∃ s', Ph (k + 5) 46 [.src, .d (.int (p : Int)), .d (po f), .d (po g)] s = .ok (false, .bool true) s' := by
  have h2 := h.two
  obtain ⟨i, s1, p1, i0, i1⟩ := pick_ok (k + 3) s 12 (by omega) (by omega)
  obtain ⟨j, s2, p2, j0, j1⟩ := pick_ok (k + 3) s1 6 (by omega) (by omega)
  obtain ⟨m, rfl⟩ := Int.eq_ofNat_of_zero_le j0
  refine ⟨s2, ?_⟩
  show endF (evS (Ph (k + 4)) G b__law_polynomials_right [.src, .d false (.int (p : Int)), .d false (po f), .d false (po g), .e, .e, .e, .e] s) = _
  unfold b__law_polynomials_right
  -- what is told
  have t1 := added_ok h (k + 2) s2 hf hg
  have t2 := less_ok h (k + 1) s2 hf hg (by omega)
  have t3 := times_ok h (k + 2) s2 hf hg (by omega) (by omega)
  have t4 := scaled_ok h (k + 2) s2 (i - 6) hf (by omega)
  obtain ⟨d, md, fd, ld, t5⟩ := common_ok h (k + 1) s2 hf hg (B := 50) (by omega) lf lg
  obtain ⟨o, po_, t6⟩ := power_of_ok (k + 3) s2 hf (by omega)
  -- what is due
  have u1 := ladd_ok h (k + 2) s2 1 hf hg (by omega) (by omega)
  have u2 := ladd_ok h (k + 2) s2 ((p : Int) - 1) hf hg (by omega) (by omega)
  have u3 := lmul_ok h (k + 2) s2 hf hg (by omega) (by omega)
  have u4 := ladd_ok h (k + 2) s2 (i - 6) (Fs.zero (R := _root_.Fin p)) hf (by rw [(ln_zero Fs.zero).mpr rfl]; omega) (by omega)
  obtain ⟨d', md', _, _, u5⟩ := lcommon_ok h k s2 hf hg (B := 50) (by omega) lf lg
  obtain ⟨o', po', u6⟩ := lpower_ok (k + 3) s2 hf (by omega)
  rw [fi_one, cst_one] at u1
  rw [neg1 h, cst_neg1, show f + -g = f - g by grind] at u2
  rw [show (0 : S p) + cst (fi p (i - 6)) * f = cst (fi p (i - 6)) * f by grind, po_zero] at u4
  rw [← md.uniq h hf hg md'] at u5
  rw [← po_.uniq po'] at u6
  rw [seq_next (env' := [.src, .d false (.int (p : Int)), .d false (po f), .d false (po g), .e, .e, .d false (.int (i - 6)), .d false (.int (m : Nat))]) (s' := s2) (par_e (ea_cons (op_e (callS1 (x := (.frz, .int 12)) (o := false) rfl ev_c frzN p1) ev_c (os _ _)) (ea_cons (callS1 (x := (.frz, .int 6)) (o := false) rfl ev_c frzN p2) ea_nil)) rfl)]
  rw [fz_e (env' := [.src, .d false (.int (p : Int)), .d false (po f), .d false (po g), .e, .e, .d false (.int (i - 6)), .d false (.int (m : Nat))]) rfl]
  have sz : ∀ n, n ≤ 10 → n ≤ sizeLine := fun n h => by rw [sizeL]; omega
  rw [seq_next (env' := [.src, .d false (.int (p : Int)), .d false (po f), .d false (po g), .d false (.list [po (f + g), po (f - g), po (f * g), po (cst (fi p (i - 6)) * f), po d, pwD o]), .e, .d false (.int (i - 6)), .d false (.int (m : Nat))]) (s' := s2) (asg_e (lst_e (ea_cons (call3 (x := (.frz, .int (p : Int))) (y := (.frz, po f)) (z := (.frz, po g)) (o := false) (v_e rfl) frzN (v_e rfl) frzN (v_e rfl) frzN t1) (ea_cons (call3 (x := (.frz, .int (p : Int))) (y := (.frz, po f)) (z := (.frz, po g)) (o := false) (v_e rfl) frzN (v_e rfl) frzN (v_e rfl) frzN t2) (ea_cons (call3 (x := (.frz, .int (p : Int))) (y := (.frz, po f)) (z := (.frz, po g)) (o := false) (v_e rfl) frzN (v_e rfl) frzN (v_e rfl) frzN t3) (ea_cons (call3 (x := (.frz, .int (p : Int))) (y := (.frz, .int (i - 6))) (z := (.frz, po f)) (o := false) (v_e rfl) frzN (v_e rfl) frzN (v_e rfl) frzN t4)
    (ea_cons (call3 (x := (.frz, .int (p : Int))) (y := (.frz, po f)) (z := (.frz, po g)) (o := false) (v_e rfl) frzN (v_e rfl) frzN (v_e rfl) frzN t5) (ea_cons (call1 (x := (.frz, po f)) (o := false) (v_e rfl) frzN t6) ea_nil)))))) rfl (sz 6 (by omega))) rfl)]
  rw [seq_next (env' := [.src, .d false (.int (p : Int)), .d false (po f), .d false (po g), .d false (.list [po (f + g), po (f - g), po (f * g), po (cst (fi p (i - 6)) * f), po d, pwD o]), .d false (.list [po (f + g), po (f - g), po (f * g), po (cst (fi p (i - 6)) * f)]), .d false (.int (i - 6)), .d false (.int (m : Nat))]) (s' := s2) (asg_e (lst_e (ea_cons (call4 (x := (.frz, .int (p : Int))) (y := (.frz, po f)) (z := (.frz, .int 1)) (w := (.frz, po g)) (o := false) (v_e rfl) frzN (v_e rfl) frzN ev_c frzN (v_e rfl) frzN u1) (ea_cons (call4 (x := (.frz, .int (p : Int))) (y := (.frz, po f)) (z := (.frz, .int ((p : Int) - 1))) (w := (.frz, po g)) (o := false) (v_e rfl) frzN (v_e rfl) frzN (op_e (v_e rfl) ev_c (os _ _)) frzN (v_e rfl) frzN u2) (ea_cons (call3 (x := (.frz, .int (p : Int))) (y := (.frz, po f)) (z := (.frz, po g)) (o := false) (v_e rfl) frzN (v_e rfl) frzN (v_e rfl) frzN u3) (ea_cons (call4 (x := (.frz, .int (p : Int))) (y := (.frz, .tuple [])) (z := (.frz, .int (i - 6))) (w := (.frz, po f)) (o := false) (v_e rfl) frzN tup0_e frzN (v_e rfl) frzN (v_e rfl) frzN u4) ea_nil)))) rfl (sz 4 (by omega))) rfl)]
  have q1 := add_ln hf hg lf lg
  have q2 : ln (f - g) ≤ 50 := ln_min (((ln_le hf).mono lf).sub ((ln_le hg).mono lg))
  have q3 := mul_ln hf hg
  have q4 := ln_min (le_cst (fi p (i - 6)) (ln_le hf))
  rw [chk_next (repr_ne (d := .list [po (f + g), po (f - g), po (f * g), po (cst (fi p (i - 6)) * f), po d, pwD o]) (v_e rfl) (op_e (v_e rfl) (lst_e (ea_cons (call3 (x := (.frz, .int (p : Int))) (y := (.frz, po f)) (z := (.frz, po g)) (o := false) (v_e rfl) frzN (v_e rfl) frzN (v_e rfl) frzN u5) (ea_cons (call1 (x := (.frz, po f)) (o := false) (v_e rfl) frzN u6) ea_nil)) rfl (sz 2 (by omega))) (by
    rw [opF_lst, if_pos (sz _ (by simp))]
    rfl)) (sm_list (fun x hx => by
      simp only [List.mem_cons, List.not_mem_nil, or_false] at hx
      rcases hx with rfl | rfl | rfl | rfl | rfl | rfl
      · exact (sm_po h (by omega)).mono (by omega) (by omega)
      · exact (sm_po h (by omega)).mono (by omega) (by omega)
      · exact (sm_po h (by omega)).mono (by omega) (by omega)
      · exact (sm_po h (by omega)).mono (by omega) (by omega)
      · exact (sm_po h (by omega)).mono (by omega) (by omega)
      · exact (sm_pw (pw_small hf (by omega) po_)).mono (by omega) (by omega)) (by simp)))]
  -- later ones, first ones
  have w1 := shifted_ok (k + 3) s2 (m := m) hf (by omega) (by omega)
  have w2 := first_ok (k + 2) s2 m hf
  have w3 := ltrim_po (p := p) (k + 3) s2 (row := .tuple (dt (min m (ln f)) (cf f))) (N := min m (ln f)) (h := lw m f) (.inr rfl) (lw_le2 (ln_le hf)) (fun i hi => lw_cf (by omega))
  rw [← dt_take] at w3
  have lw1 : ln (lw m f) ≤ 50 := by have := ln_min (lw_le2 (m := m) (ln_le hf)); omega
  have lz1 : ln (zp m * f) ≤ 200 := by have := ln_min (zp_le m (ln_le hf)); omega
  rw [seq_next (env' := [.src, .d false (.int (p : Int)), .d false (po f), .d false (po g), .d false (.list [po (zp m * f), po (lw m f)]), .d false (.list [po (f + g), po (f - g), po (f * g), po (cst (fi p (i - 6)) * f)]), .d false (.int (i - 6)), .d false (.int (m : Nat))]) (s' := s2) (asg_e (lst_e (ea_cons (call2 (x := (.frz, po f)) (y := (.frz, .int (m : Nat))) (o := false) (v_e rfl) frzN (v_e rfl) frzN w1) (ea_cons (call2 (x := (.frz, po f)) (y := (.frz, .int (m : Nat))) (o := false) (v_e rfl) frzN (v_e rfl) frzN w2) ea_nil)) rfl (sz 2 (by omega))) rfl)]
  rw [chk_next (repr_ne (d := .list [po (zp m * f), po (lw m f)]) (v_e rfl) (lst_e (ea_cons (sh_e (m := m) hf (by omega) (by omega) (v_e rfl) (v_e rfl)) (ea_cons (call1 (x := (.frz, .tuple _)) (o := false) (slh_e (k := .frz) (v_e rfl) (v_e rfl) rfl) frzN w3) ea_nil)) rfl (sz 2 (by omega))) (sm_list (fun x hx => by
      simp only [List.mem_cons, List.not_mem_nil, or_false] at hx
      rcases hx with rfl | rfl
      · exact (sm_po h (by omega)).mono (by omega) (by omega)
      · exact (sm_po h (by omega)).mono (by omega) (by omega)) (by simp)))]
  -- inverses
  rw [chk_next (repr_ne (inv_rows h (k + 3) s2 4 (.inl rfl) _ rfl rfl) (inv_rows h (k + 3) s2 35 (.inr rfl) _ rfl rfl) ((Sm.list (k := 0) (w := 30) (n := 5) (fun x hx => by
    obtain ⟨i, _, rfl⟩ := List.mem_map.mp hx
    have := val_small h (inv (fi p (1 + (i : Nat))))
    refine Sm.int ?_
    show ((inv (fi p (1 + (i : Nat)))).val : Int).natAbs < _
    omega) (by rw [dt_len]; have := h.le; omega)).mono (by omega) (by omega)))]
  -- quotients
  refine congrArg endF (seq_ret (o := false) (ret_e (k := .frz) ?_))
  obtain ⟨w, e1, i1⟩ := eqF_po0 hg
  by_cases z : g = 0
  · rw [i1.mpr z] at e1
    exact or_t (x := (.frz, .bool true)) (cmp_e (v_e rfl) tup0_e (ceq e1)) rfl
  · rw [bfalse i1 z] at e1
    rw [or_f (x := (.frz, .bool false)) (cmp_e (v_e rfl) tup0_e (ceq e1)) rfl]
    obtain ⟨q, r, x1, hq, ler, ev⟩ := parted_ok h (k + 2) s2 hf hg z (by omega) (by omega)
    obtain ⟨q', r', x2, hq', ler', ev'⟩ := lparted_ok h (k + 1) s2 hf hg z (by omega) (by omega)
    have dg := (lst_deg hg z).1
    obtain ⟨rfl, rfl⟩ := div_uniq h.F (g := g) (m := ln g - 1) dg ler ler' hq hq' (x1.symm.trans x2)
    have lr := ln_min ler
    have lq : ln q ≤ 200 := by
      have e : f - r = q * g := by rw [x1]; grind
      have l1 := quot_le h e z hq hg
      have l2 : ln (f - r) ≤ 50 := ln_min (((ln_le hf).mono lf).sub (ler.mono (by omega)))
      omega
    refine repr_eq (d := .tuple [po q, po r]) (call3 (x := (.frz, .int (p : Int))) (y := (.frz, po f)) (z := (.frz, po g)) (o := false) (v_e rfl) frzN (v_e rfl) frzN (v_e rfl) frzN ev) (call3 (x := (.frz, .int (p : Int))) (y := (.frz, po f)) (z := (.frz, po g)) (o := false) (v_e rfl) frzN (v_e rfl) frzN (v_e rfl) frzN ev') ((sm_fr h lq (by omega)).mono (by omega) (by omega))
end
end K10
set_option maxHeartbeats 1000000
/-! K10R: fractions right. -/
namespace K10
open PySem PySem.Spec PyProof.Rows L2 Tre PT Pol
section
variable {p : Nat} [NeZero p]
noncomputable def frT : Option (S p × S p) → D
  | some (a, b) => fr a b
  | none => .str "none"
def someB {α : Type _} : Option α → Bool
  | some _ => true
  | none => false
section
variable {Φ : Nat → List Tre.Arg → Src → R (Bool × D)} {Gg : Nat → Option D} {x y z : T} {env : Tre.Env} {s : Src} {vx vy vz : Kd × D} {f : Nat} {o : Option (S p × S p)}
theorem tried3 (h1 : evE Φ Gg x env s = .ok vx s) (k1 : vx.1 ≠ .peek) (h2 : evE Φ Gg y env s = .ok vy s) (k2 : vy.1 ≠ .peek) (h3 : evE Φ Gg z env s = .ok vz s) (k3 : vz.1 ≠ .peek)
    (h : Φ f [.d vx.2, .d vy.2, .d vz.2] s = frX o s) : evE Φ Gg (.tried f 0 "none" (.cons x (.cons y (.cons z .nil)))) env s = .ok (.frz, frT o) s := by
  simp only [evE, evG, h1, h2, h3, R.bind_ok, if_neg k1, if_neg k2, if_neg k3, R.calm, h]
  cases o with
  | none => rfl
  | some ab => rfl
theorem tried2 (h1 : evE Φ Gg x env s = .ok vx s) (k1 : vx.1 ≠ .peek) (h2 : evE Φ Gg y env s = .ok vy s) (k2 : vy.1 ≠ .peek)
    (h : Φ f [.d vx.2, .d vy.2] s = frX o s) : evE Φ Gg (.tried f 0 "none" (.cons x (.cons y .nil))) env s = .ok (.frz, frT o) s := by
  simp only [evE, evG, h1, h2, R.bind_ok, if_neg k1, if_neg k2, R.calm, h]
  cases o with
  | none => rfl
  | some ab => rfl
theorem isnt_e {i : Nat} (h : env[i]? = some (.d false (frD o))) : evE Φ Gg (.cmp .IsNot (.v i) (.c .none)) env s = .ok (.frz, .bool (someB o)) s := by
  refine cmp_e (v_e h) ev_c ?_
  cases o <;> rfl
theorem orNone_e {i : Nat} (h : env[i]? = some (.d false (frD o))) : evE Φ Gg (.ife (.cmp .IsNot (.v i) (.c .none)) (.v i) (.c (.str "none"))) env s = .ok (.frz, frT o) s := by
  cases o with
  | none =>
    rw [ife_f (x := (.frz, .bool false)) (isnt_e (o := none) h) rfl]
    exact ev_c
  | some ab =>
    rw [ife_t (x := (.frz, .bool true)) (isnt_e (o := some ab) h) rfl]
    exact v_e h
end
theorem sm_frT (h : Pr p) {o : Option (S p × S p)} (l : ∀ u v, o = some (u, v) → ln u ≤ 200 ∧ ln v ≤ 200) : Sm 5 300000 (frT o) := by
  cases o with
  | none => exact (Sm.str (x := "none") (w := 4) (by decide) (by decide +kernel)).mono (by omega) (by omega)
  | some ab =>
    obtain ⟨a, b⟩ := ab
    obtain ⟨q1, q2⟩ := l a b rfl
    exact (sm_fr h q1 q2).mono (by omega) (by omega)
theorem sum_part {R : Type _} [Lean.Grind.CommRing R] (f g : Nat → R) (n : Nat) : ∀ I, I ≤ n + 1 → PT.part f g (I + 1) n = PT.part f g I n + (if I ≤ n then f I * g (n - I) else 0) := fun I _ => rfl
theorem sum_int (f g : Nat → Int) (n : Nat) : ∀ I, I ≤ n + 1 → ((List.range I).map fun i => f i * g (n - i)).sum = PT.part f g I n
  | 0, _ => rfl
  | I + 1, h => by
    rw [List.range_succ, List.map_append, List.sum_append, sum_int f g n I (by omega), PT.part, if_pos (by omega)]
    simp
def fxE (p : Nat) (x y : D) (k below due told far both m one other a b wanted fit c d i : Tre.Slot) : Tre.Env := [.src, .d false (.int (p : Int)), .d false x, .d false y, k, below, due, told, far, both, m, one, other, a, b, wanted, fit, c, d, i]
theorem fracs_right (h : Pr p) (k : Nat) (s : Src) {a b c d : S p} (r : Red a b) (r' : Red c d) (l1 : ln a ≤ 10) (l2 : ln b ≤ 10) (l3 : ln c ≤ 10) (l4 : ln d ≤ 10) : ∃ s', Ph (k + 9) 47 [.src, .d (.int (p : Int)), .d (fr a b), .d (fr c d)] s = .ok (false, .bool true) s' := by
  have h2 := h.two
  have zb := red_nz h r
  have zd := red_nz h r'
  obtain ⟨i, s1, p1, i0, i1⟩ := pick_ok (k + 7) s 12 (by omega) (by omega)
  refine ⟨s1, ?_⟩
  show endF (evS (Ph (k + 8)) G b__law_fractions_right (fxE p (fr a b) (fr c d) .e .e .e .e .e .e .e .e .e .e .e .e .e .e .e .e) s) = _
  unfold b__law_fractions_right
  rw [seq_next (env' := fxE p (fr a b) (fr c d) (.d false (.int (i - 6))) .e .e .e .e .e .e .e .e .e .e .e .e .e .e .e) (s' := s1) (asg_e (op_e (callS1 (x := (.frz, .int 12)) (o := false) rfl ev_c frzN p1) ev_c (os _ _)) rfl)]
  -- the parts
  have m1 := lmul_ok h (k + 6) s1 r.fa r'.fb (by omega) (by omega)
  have m2 := lmul_ok h (k + 6) s1 r'.fa r.fb (by omega) (by omega)
  have m3 := lmul_ok h (k + 6) s1 r.fb r'.fb (by omega) (by omega)
  have m4 := lmul_ok h (k + 6) s1 r.fa r'.fa (by omega) (by omega)
  have F1 := r.fa.mul r'.fb
  have F2 := r'.fa.mul r.fb
  have F3 := r.fb.mul r'.fb
  have F4 := r.fa.mul r'.fa
  have L1 := mul_ln r.fa r'.fb
  have L2 := mul_ln r'.fa r.fb
  have L3 := mul_ln r.fb r'.fb
  have L4 := mul_ln r.fa r'.fa
  have A1 := ladd_ok h (k + 6) s1 1 F1 F2 (by omega) (by omega)
  have A2 := ladd_ok h (k + 6) s1 ((p : Int) - 1) F1 F2 (by omega) (by omega)
  have A3 := ladd_ok h (k + 6) s1 (i - 6) (Fs.zero (R := _root_.Fin p)) r.fa (by rw [(ln_zero Fs.zero).mpr rfl]; omega) (by omega)
  rw [fi_one, cst_one] at A1
  rw [neg1 h, cst_neg1, show a * d + -(c * b) = a * d - c * b by grind] at A2
  rw [show (0 : S p) + cst (fi p (i - 6)) * a = cst (fi p (i - 6)) * a by grind, po_zero] at A3
  have FA1 := F1.add F2
  have FA2 := F1.sub F2
  have FA3 := fs_cst (fi p (i - 6)) r.fa
  have LA1 := add_ln F1 F2 (n := 20) (by omega) (by omega)
  have LA2 : ln (a * d - c * b) ≤ 20 := ln_min (((ln_le F1).mono (by omega)).sub ((ln_le F2).mono (by omega)))
  have LA3 := ln_min (le_cst (fi p (i - 6)) (ln_le r.fa))
  -- what is told
  obtain ⟨u1, v1, T1, N1, N2, t1⟩ := sum_ok h (k + 3) s1 r r' (n := 10) (by omega) l1 l2 l3 l4
  obtain ⟨u2, v2, T2, t2⟩ := difference_ok h (k + 2) s1 r r' (n := 10) (by omega) l1 l2 l3 l4
  obtain ⟨u3, v3, T3, N5, N6, t3⟩ := product_ok h (k + 3) s1 r r' (n := 10) (by omega) l1 l2 l3 l4
  obtain ⟨u4, v4, T4, N7, N8, t4⟩ := multiple_ok h (k + 5) s1 (i - 6) r (by omega) (by omega)
  -- what is due
  obtain ⟨o1, D1, _, d1⟩ := lfraction_ok h (k + 3) s1 FA1 F3 (by omega) (by omega)
  obtain ⟨o2, D2, lo2, d2⟩ := lfraction_ok h (k + 3) s1 FA2 F3 (by omega) (by omega)
  obtain ⟨o3, D3, _, d3⟩ := lfraction_ok h (k + 3) s1 F4 F3 (by omega) (by omega)
  obtain ⟨o4, D4, _, d4⟩ := lfraction_ok h (k + 3) s1 FA3 r.fb (by omega) (by omega)
  obtain rfl := D1.uniq h.F T1
  obtain rfl := T2 o2 D2
  obtain rfl := D3.uniq h.F T3
  obtain rfl := D4.uniq h.F T4
  obtain ⟨N3, N4⟩ := lo2 u2 v2 rfl
  have sz : ∀ n, n ≤ 10 → n ≤ sizeLine := fun n h => by rw [sizeL]; omega
  rw [seq_next (env' := fxE p (fr a b) (fr c d) (.d false (.int (i - 6))) .e .e .e .e .e .e (.d false (po (a * d))) (.d false (po (c * b))) .e .e .e .e .e .e .e) (s' := s1) (par_e (ea_cons (call3 (x := (.frz, .int (p : Int))) (y := (.frz, po a)) (z := (.frz, po d)) (o := false) (v_e rfl) frzN (x0_e rfl) frzN (x1_e rfl) frzN m1) (ea_cons (call3 (x := (.frz, .int (p : Int))) (y := (.frz, po c)) (z := (.frz, po b)) (o := false) (v_e rfl) frzN (x0_e rfl) frzN (x1_e rfl) frzN m2) ea_nil)) rfl)]
  rw [fz_e (env' := fxE p (fr a b) (fr c d) (.d false (.int (i - 6))) .e .e .e .e .e .e (.d false (po (a * d))) (.d false (po (c * b))) .e .e .e .e .e .e .e) rfl]
  rw [seq_next (env' := fxE p (fr a b) (fr c d) (.d false (.int (i - 6))) (.d false (po (b * d))) .e .e .e .e .e (.d false (po (a * d))) (.d false (po (c * b))) .e .e .e .e .e .e .e) (s' := s1) (asg_e (call3 (x := (.frz, .int (p : Int))) (y := (.frz, po b)) (z := (.frz, po d)) (o := false) (v_e rfl) frzN (x1_e rfl) frzN (x1_e rfl) frzN m3) rfl)]
  rw [seq_next (env' := fxE p (fr a b) (fr c d) (.d false (.int (i - 6))) (.d false (po (b * d))) (.d false (.list [fr u1 v1, fr u2 v2])) .e .e .e .e (.d false (po (a * d))) (.d false (po (c * b))) .e .e .e .e .e .e .e) (s' := s1) (asg_e (lst_e (ea_cons (call3 (x := (.frz, .int (p : Int))) (y := (.frz, po (a * d + c * b))) (z := (.frz, po (b * d))) (o := false) (v_e rfl) frzN (call4 (x := (.frz, .int (p : Int))) (y := (.frz, po (a * d))) (z := (.frz, .int 1)) (w := (.frz, po (c * b))) (o := false) (v_e rfl) frzN (v_e rfl) frzN ev_c frzN (v_e rfl) frzN A1) frzN (v_e rfl) frzN d1)
    (ea_cons (call3 (x := (.frz, .int (p : Int))) (y := (.frz, po (a * d - c * b))) (z := (.frz, po (b * d))) (o := false) (v_e rfl) frzN (call4 (x := (.frz, .int (p : Int))) (y := (.frz, po (a * d))) (z := (.frz, .int ((p : Int) - 1))) (w := (.frz, po (c * b))) (o := false) (v_e rfl) frzN (v_e rfl) frzN (op_e (v_e rfl) ev_c (os _ _)) frzN (v_e rfl) frzN A2) frzN (v_e rfl) frzN d2) ea_nil)) rfl (sz 2 (by omega))) rfl)]
  rw [seq_next (env' := fxE p (fr a b) (fr c d) (.d false (.int (i - 6))) (.d false (po (b * d))) (.d false (.list [fr u1 v1, fr u2 v2, fr u3 v3, fr u4 v4])) .e .e .e .e (.d false (po (a * d))) (.d false (po (c * b))) .e .e .e .e .e .e .e) (s' := s1) (asg_e (op_e (z := (.own, .list [fr u1 v1, fr u2 v2, fr u3 v3, fr u4 v4])) (v_e rfl) (lst_e (ea_cons (call3 (x := (.frz, .int (p : Int))) (y := (.frz, po (a * c))) (z := (.frz, po (b * d))) (o := false) (v_e rfl) frzN (call3 (x := (.frz, .int (p : Int))) (y := (.frz, po a)) (z := (.frz, po c)) (o := false) (v_e rfl) frzN (x0_e rfl) frzN (x0_e rfl) frzN m4) frzN (v_e rfl) frzN d3)
    (ea_cons (call3 (x := (.frz, .int (p : Int))) (y := (.frz, po (cst (fi p (i - 6)) * a))) (z := (.frz, po b)) (o := false) (v_e rfl) frzN (call4 (x := (.frz, .int (p : Int))) (y := (.frz, .tuple [])) (z := (.frz, .int (i - 6))) (w := (.frz, po a)) (o := false) (v_e rfl) frzN tup0_e frzN (v_e rfl) frzN (x0_e rfl) frzN A3) frzN (x1_e rfl) frzN d4) ea_nil)) rfl (sz 2 (by omega))) (by
      show opF .Add (.list [fr u1 v1, fr u2 v2]) (.list [fr u3 v3, fr u4 v4]) = _
      rw [opF_lst, if_pos (sz _ (by simp))]
      rfl)) rfl)]
  rw [seq_next (env' := fxE p (fr a b) (fr c d) (.d false (.int (i - 6))) (.d false (po (b * d))) (.d false (.list [fr u1 v1, fr u2 v2, fr u3 v3, fr u4 v4])) (.d false (.list [fr u1 v1, fr u2 v2, fr u3 v3, fr u4 v4])) .e .e .e (.d false (po (a * d))) (.d false (po (c * b))) .e .e .e .e .e .e .e) (s' := s1) (asg_e (lst_e (ea_cons (call3 (x := (.frz, .int (p : Int))) (y := (.frz, fr a b)) (z := (.frz, fr c d)) (o := false) (v_e rfl) frzN (v_e rfl) frzN (v_e rfl) frzN t1) (ea_cons (call3 (x := (.frz, .int (p : Int))) (y := (.frz, fr a b)) (z := (.frz, fr c d)) (o := false) (v_e rfl) frzN (v_e rfl) frzN (v_e rfl) frzN t2) (ea_cons (call3 (x := (.frz, .int (p : Int))) (y := (.frz, fr a b)) (z := (.frz, fr c d)) (o := false) (v_e rfl) frzN (v_e rfl) frzN (v_e rfl) frzN t3) (ea_cons (call3 (x := (.frz, .int (p : Int))) (y := (.frz, .int (i - 6))) (z := (.frz, fr a b)) (o := false) (v_e rfl) frzN (v_e rfl) frzN (v_e rfl) frzN t4) ea_nil)))) rfl (sz 4 (by omega))) rfl)]
  rw [chk_next (repr_ne (d := .list [fr u1 v1, fr u2 v2, fr u3 v3, fr u4 v4]) (v_e rfl) (v_e rfl) (sm_list (fun x hx => by
      simp only [List.mem_cons, List.not_mem_nil, or_false] at hx
      rcases hx with rfl | rfl | rfl | rfl
      · exact sm_fr h (by omega) (by omega)
      · exact sm_fr h (by omega) (by omega)
      · exact sm_fr h (by omega) (by omega)
      · exact sm_fr h (by omega) (by omega)) (by simp)))]
  -- numbers
  obtain ⟨rx, hrx⟩ : ∃ rx, b * rx = a := ⟨_, rowS_ok r.b0⟩
  obtain ⟨ry, hry⟩ : ∃ ry, d * ry = c := ⟨_, rowS_ok r'.b0⟩
  obtain ⟨R1, X1, _⟩ := frS_red T1
  obtain ⟨R3, X3, _⟩ := frS_red T3
  have zbd := ser_nz h.F zb zd
  have Y1 : v1 * (rx + ry) = u1 := cancel h.F zbd (by rw [← hrx, ← hry] at X1; grind)
  have Y3 : v3 * (rx * ry) = u3 := cancel h.F zbd (by rw [← hrx, ← hry] at X3; grind)
  have n1 := lnumbers_ok h (k + 6) s1 r.fa r.fb r.b0 hrx (by omega) (by omega) 12 (by omega)
  have n2 := lnumbers_ok h (k + 6) s1 r'.fa r'.fb r'.b0 hry (by omega) (by omega) 12 (by omega)
  have n3 := numbers_ok h (k + 7) s1 R1.fa R1.fb R1.b0 Y1 (by omega) (by omega) 12 (by omega)
  have n4 := numbers_ok h (k + 7) s1 R3.fa R3.fb R3.b0 Y3 (by omega) (by omega) 12 (by omega)
  obtain ⟨due, hdue⟩ : ∃ v : D, v = .list [fr u1 v1, fr u2 v2, fr u3 v3, fr u4 v4] := ⟨_, rfl⟩
  rw [← hdue]
  rw [seq_next (env' := fxE p (fr a b) (fr c d) (.d false (.int (i - 6))) (.d false (po (b * d))) (.d false due) (.d false due) (.d false (.int 12)) .e .e (.d false (po (a * d))) (.d false (po (c * b))) .e .e .e .e .e .e .e) (s' := s1) (asg_e ev_c rfl)]
  rw [seq_next (env' := fxE p (fr a b) (fr c d) (.d false (.int (i - 6))) (.d false (po (b * d))) (.d false due) (.d false due) (.d false (.int 12)) .e .e (.d false (po (a * d))) (.d false (po (c * b))) (.d false (.tuple (dt 12 (cf rx)))) (.d false (.tuple (dt 12 (cf ry)))) .e .e .e .e .e) (s' := s1) (par_e (ea_cons (call3 (x := (.frz, .int (p : Int))) (y := (.frz, fr a b)) (z := (.frz, .int 12)) (o := false) (v_e rfl) frzN (v_e rfl) frzN (v_e rfl) frzN n1) (ea_cons (call3 (x := (.frz, .int (p : Int))) (y := (.frz, fr c d)) (z := (.frz, .int 12)) (o := false) (v_e rfl) frzN (v_e rfl) frzN (v_e rfl) frzN n2) ea_nil)) rfl)]
  rw [fz_e (env' := fxE p (fr a b) (fr c d) (.d false (.int (i - 6))) (.d false (po (b * d))) (.d false due) (.d false due) (.d false (.int 12)) .e .e (.d false (po (a * d))) (.d false (po (c * b))) (.d false (.tuple (dt 12 (cf rx)))) (.d false (.tuple (dt 12 (cf ry)))) .e .e .e .e .e) rfl]
  have at7 : ∀ (env : Tre.Env) (j : Nat) (v : D), env[7]? = some (.d false due) → [fr u1 v1, fr u2 v2, fr u3 v3, fr u4 v4][j]? = some v → evE (Ph (k + 8)) G (.sub (.v 7) (.c (.int (j : Nat)))) env s1 = .ok (.frz, v) s1 := fun env j v he hv => by
    rw [hdue] at he
    exact sub_e (x := (.frz, .list [fr u1 v1, fr u2 v2, fr u3 v3, fr u4 v4])) (y := (.frz, .int (j : Nat))) (v_e he) ev_c ((Tre.atI_nat _ j).trans hv)
  have a70 : ∀ env : Tre.Env, env[7]? = some (.d false due) → evE (Ph (k + 8)) G (.sub (.v 7) (.c (.int 0))) env s1 = .ok (.frz, fr u1 v1) s1 := fun env he => at7 env 0 _ he rfl
  have a72 : ∀ env : Tre.Env, env[7]? = some (.d false due) → evE (Ph (k + 8)) G (.sub (.v 7) (.c (.int 2))) env s1 = .ok (.frz, fr u3 v3) s1 := fun env he => at7 env 2 _ he rfl
  have lz := lc_dt (Φ := Ph (k + 8)) (Gg := G) (tg := .tup (.cons (.v 17) (.cons (.v 18) .nil))) (it := .zip false (.v 13) (.v 14)) (elt := .op .Mod (.bi .int (.cons (.op .Add (.v 17) (.v 18)) .nil)) (.v 1)) (ws := [17, 18]) (env := fxE p (fr a b) (fr c d) (.d false (.int (i - 6))) (.d false (po (b * d))) (.d false due) (.d false due) (.d false (.int 12)) .e .e (.d false (po (a * d))) (.d false (po (c * b))) (.d false (.tuple (dt 12 (cf rx)))) (.d false (.tuple (dt 12 (cf ry)))) .e .e .e .e .e) (s := s1) (s1 := s1) (n := 12) (xs := zipD (dt 12 (cf rx)) (dt 12 (cf ry))) (ψ := cf (rx + ry))
    (zipT_e (v_e rfl) (v_e rfl) frzN frzN) (by rw [zipD_len, dt_len, dt_len]; rfl) (by rw [sizeL]; omega) (fun j x hx => by
      have hj : j < 12 := by
        have := (List.getElem?_eq_some_iff.mp hx).1
        rw [zipD_len, dt_len, dt_len] at this
        exact this
      rw [zipD_get _ _ j _ _ (dt_get hj) (dt_get hj)] at hx
      cases hx
      refine ⟨fxE p (fr a b) (fr c d) (.d false (.int (i - 6))) (.d false (po (b * d))) (.d false due) (.d false due) (.d false (.int 12)) .e .e (.d false (po (a * d))) (.d false (po (c * b))) (.d false (.tuple (dt 12 (cf rx)))) (.d false (.tuple (dt 12 (cf ry)))) .e .e (.d false (.int (cf rx j))) (.d false (.int (cf ry j))) .e, rfl, ?_⟩
      rw [← cf_fi (f := rx + ry) (i := j) (x := cf rx j + cf ry j) (by rw [fi_add, fi_cf, fi_cf]; rfl)]
      exact op_e (bi1 (op_e (v_e rfl) (v_e rfl) (oa _ _)) rfl) (v_e rfl) (omod (by omega)))
  rw [chk_next (repr_ne (d := .tuple (dt 12 (cf (rx + ry)))) (call3 (x := (.frz, .int (p : Int))) (y := (.frz, fr u1 v1)) (z := (.frz, .int 12)) (o := false) (v_e rfl) frzN (a70 _ rfl) frzN (v_e rfl) frzN n3) (bi1 lz rfl) ((sm_dt h _ (by omega)).mono (by omega) (by omega)))]
  rw [seq_next (env' := fxE p (fr a b) (fr c d) (.d false (.int (i - 6))) (.d false (po (b * d))) (.d false due) (.d false due) (.d false (.int 12)) (.d true (.list (dt 0 (cf (rx * ry))))) .e (.d false (po (a * d))) (.d false (po (c * b))) (.d false (.tuple (dt 12 (cf rx)))) (.d false (.tuple (dt 12 (cf ry)))) .e .e .e .e .e) (s' := s1) (asg_e (lst_e ea_nil rfl (sz 0 (by omega))) rfl)]
  obtain ⟨env', e1, w1, rfl⟩ := for_ind (Φ := Ph (k + 8)) (Gg := G) (tg := .v 10) (it := .rng (.cons (.v 8) .nil)) (b := .seq (.app 9 (.op .Mod (.bi .int (.cons (.bi .sum (.cons (.lc (.v 19) (.rng (.cons (.op .Add (.v 10) (.c (.int 1))) .nil)) (.c (.bool true)) (.op .Mult (.sub (.v 13) (.v 19)) (.sub (.v 14) (.op .Sub (.v 10) (.v 19)))) [19]) .nil)) .nil)) (.v 1))) .nil)
    (env := fxE p (fr a b) (fr c d) (.d false (.int (i - 6))) (.d false (po (b * d))) (.d false due) (.d false due) (.d false (.int 12)) (.d true (.list (dt 0 (cf (rx * ry))))) .e (.d false (po (a * d))) (.d false (po (c * b))) (.d false (.tuple (dt 12 (cf rx)))) (.d false (.tuple (dt 12 (cf ry)))) .e .e .e .e .e) (s := s1) (s1 := s1) (xs := rngD 0 12)
    (fun j env => ∃ w1, env = fxE p (fr a b) (fr c d) (.d false (.int (i - 6))) (.d false (po (b * d))) (.d false due) (.d false due) (.d false (.int 12)) (.d true (.list (dt j (cf (rx * ry))))) w1 (.d false (po (a * d))) (.d false (po (c * b))) (.d false (.tuple (dt 12 (cf rx)))) (.d false (.tuple (dt 12 (cf ry)))) .e .e .e .e .e)
    (rng1_e (j := 12) (v_e rfl) (by omega)) ⟨.e, rfl⟩ (fun j x env hx ⟨w1, hE⟩ => by
      obtain ⟨hj, rfl⟩ := tup_get (φ := cf rx) hx
      subst hE
      refine ⟨fxE p (fr a b) (fr c d) (.d false (.int (i - 6))) (.d false (po (b * d))) (.d false due) (.d false due) (.d false (.int 12)) (.d true (.list (dt j (cf (rx * ry))))) (.d false (.int (j : Nat))) (.d false (po (a * d))) (.d false (po (c * b))) (.d false (.tuple (dt 12 (cf rx)))) (.d false (.tuple (dt 12 (cf ry)))) .e .e .e .e .e, _, rfl, ?_, .d false (.int (j : Nat)), rfl⟩
      have lc := lc_dt (Φ := Ph (k + 8)) (Gg := G) (tg := .v 19) (it := .rng (.cons (.op .Add (.v 10) (.c (.int 1))) .nil)) (elt := .op .Mult (.sub (.v 13) (.v 19)) (.sub (.v 14) (.op .Sub (.v 10) (.v 19)))) (ws := [19]) (env := fxE p (fr a b) (fr c d) (.d false (.int (i - 6))) (.d false (po (b * d))) (.d false due) (.d false due) (.d false (.int 12)) (.d true (.list (dt j (cf (rx * ry))))) (.d false (.int (j : Nat))) (.d false (po (a * d))) (.d false (po (c * b))) (.d false (.tuple (dt 12 (cf rx)))) (.d false (.tuple (dt 12 (cf ry)))) .e .e .e .e .e) (s := s1) (s1 := s1) (n := j + 1) (xs := rngD 0 (j + 1)) (ψ := fun t => cf rx t * cf ry (j - t))
        (rng1_e (j := ((j : Nat) + 1 : Int)) (op_e (v_e rfl) ev_c (oa _ _)) (by omega)) (by rw [rng_dt, dt_len]) (by rw [sizeL]; omega) (fun t x hx => by
          obtain ⟨ht, rfl⟩ := tup_get (φ := cf rx) hx
          refine ⟨fxE p (fr a b) (fr c d) (.d false (.int (i - 6))) (.d false (po (b * d))) (.d false due) (.d false due) (.d false (.int 12)) (.d true (.list (dt j (cf (rx * ry))))) (.d false (.int (j : Nat))) (.d false (po (a * d))) (.d false (po (c * b))) (.d false (.tuple (dt 12 (cf rx)))) (.d false (.tuple (dt 12 (cf ry)))) .e .e .e .e (.d false (.int (t : Nat))), rfl, ?_⟩
          have e0 : subF (.tuple (dt 12 (cf rx))) (.int (t : Nat)) = some (.int (cf rx t)) := dt_sub (by omega)
          have e2 : subF (.tuple (dt 12 (cf ry))) (.int ((j : Nat) - (t : Nat) : Int)) = some (.int (cf ry (j - t))) := by
            rw [show ((j : Nat) - (t : Nat) : Int) = ((j - t : Nat) : Int) by omega]
            exact dt_sub (by omega)
          exact op_e (sub_e (x := (.frz, .tuple (dt 12 (cf rx)))) (v_e rfl) (v_e rfl) e0) (sub_e (x := (.frz, .tuple (dt 12 (cf ry)))) (v_e rfl) (op_e (v_e rfl) (v_e rfl) (os _ _)) e2) (om (.inl (cf_small h rx t))))
      have sm : biF .sum [.list (dt (j + 1) fun t => cf rx t * cf ry (j - t))] = some (.frz, .int (PT.part (cf rx) (cf ry) (j + 1) j)) := by
        show (intsOf (dt (j + 1) fun t => cf rx t * cf ry (j - t))).map (fun ns => (Kd.frz, PyData.int ns.sum)) = _
        rw [dt_ints, Option.map_some, sum_int (cf rx) (cf ry) j (j + 1) (Nat.le_refl _)]
      have em : PT.part (cf rx) (cf ry) (j + 1) j % (p : Int) = cf (rx * ry) j := cf_fi (by rw [fi_part, part_mulF]; rfl)
      refine one_e ?_
      have := app_e (Φ := Ph (k + 8)) (Gg := G) (a := .op .Mod (.bi .int (.cons (.bi .sum (.cons (.lc (.v 19) (.rng (.cons (.op .Add (.v 10) (.c (.int 1))) .nil)) (.c (.bool true)) (.op .Mult (.sub (.v 13) (.v 19)) (.sub (.v 14) (.op .Sub (.v 10) (.v 19)))) [19]) .nil)) .nil)) (.v 1)) (env := fxE p (fr a b) (fr c d) (.d false (.int (i - 6))) (.d false (po (b * d))) (.d false due) (.d false due) (.d false (.int 12)) (.d true (.list (dt j (cf (rx * ry))))) (.d false (.int (j : Nat))) (.d false (po (a * d))) (.d false (po (c * b))) (.d false (.tuple (dt 12 (cf rx)))) (.d false (.tuple (dt 12 (cf ry)))) .e .e .e .e .e) (s := s1) (s1 := s1) (i := 9) (xs := dt j (cf (rx * ry))) (k := .frz) (d := .int (cf (rx * ry) j)) rfl (by
        have := op_e (Φ := Ph (k + 8)) (Gg := G) (b := .v 1) (o := .Mod) (x := (.frz, .int (PT.part (cf rx) (cf ry) (j + 1) j))) (y := (.frz, .int (p : Int))) (bi1 (f := .int) (bi1 (f := .sum) lc sm) rfl) (v_e rfl) (omod (by omega))
        rw [em] at this
        exact this) frzN (by rw [dt_len, sizeL]; omega)
      rw [this, dt_snoc]
      rfl)
  have hl : (rngD 0 12).length = 12 := by rw [rng_dt, dt_len]
  have e1 : evS (Ph (k + 8)) G _ _ s1 = .ok (.next (fxE p (fr a b) (fr c d) (.d false (.int (i - 6))) (.d false (po (b * d))) (.d false due) (.d false due) (.d false (.int 12)) (.d true (.list (dt (rngD 0 12).length (cf (rx * ry))))) w1 (.d false (po (a * d))) (.d false (po (c * b))) (.d false (.tuple (dt 12 (cf rx)))) (.d false (.tuple (dt 12 (cf ry)))) .e .e .e .e .e)) s1 := e1
  rw [hl] at e1
  rw [seq_next e1]
  rw [chk_next (repr_ne (d := .tuple (dt 12 (cf (rx * ry)))) (call3 (x := (.frz, .int (p : Int))) (y := (.frz, fr u3 v3)) (z := (.frz, .int 12)) (o := false) (v_e rfl) frzN (a72 _ rfl) frzN (v_e rfl) frzN n4) (bi1 (x := (.peek, .list (dt 12 (cf (rx * ry))))) (vo_e rfl) rfl) ((sm_dt h _ (by omega)).mono (by omega) (by omega)))]
  -- ratios
  obtain ⟨w, e3, i3⟩ := eqF_po0 r'.fa
  obtain ⟨wa, e4, i4⟩ := eqF_po0 r.fa
  have fin : ∀ env : Tre.Env, endF (evS (Ph (k + 8)) G (.seq (.ret (.c (.bool true))) .nil) env s1) = .ok (false, .bool true) s1 := fun env => congrArg endF (seq_ret (o := false) (ret_e (k := .frz) ev_c))
  by_cases zc : c = 0
  · rw [i3.mpr zc] at e3
    rw [seq_next (by
      rw [ifs_f (x := (.frz, .bool false)) (cmp_e (x0_e rfl) tup0_e (cne e3)) rfl]
      exact ev_nil)]
    exact fin _
  · rw [bfalse i3 zc] at e3
    obtain ⟨o5, D5, lo5, d5⟩ := lfraction_ok h (k + 3) s1 F1 F2 (by omega) (by omega)
    obtain ⟨o6, D6, lo6, t6⟩ := ratio_ok h (k + 3) s1 r r' (n := 10) (by omega) l1 l2 l3 l4
    obtain ⟨o7, D7, lo7, d7⟩ := lfraction_ok h (k + 3) s1 r'.fb r'.fa (by omega) (by omega)
    obtain ⟨o8, D8, lo8, t8⟩ := one_over_ok h (k + 3) s1 r' (by omega) (by omega)
    obtain rfl := D7.uniq h.F D8
    rw [show b * c = c * b by grind] at D6
    obtain rfl := D5.uniq h.F D6
    obtain ⟨py, Py, q2⟩ := lpower_ok (k + 7) s1 r'.fa (by omega)
    obtain ⟨px, Px, q1⟩ := lpower_ok (k + 7) s1 r.fa (by omega)
    have zcb := ser_nz h.F zc zb
    -- what is wanted
    obtain ⟨o9, w9, h9, fit⟩ : ∃ o9, (a ≠ 0 → o9 = o5) ∧ o9 = o5 ∧ ((a = 0 ∧ o9 = some (0, 1)) ∨ (a ≠ 0)) := by
      by_cases za : a = 0
      · refine ⟨o5, fun _ => rfl, rfl, .inl ⟨za, ?_⟩⟩
        refine D5.uniq h.F (.told zcb (red01 h) ?_)
        rw [za]; grind
      · exact ⟨o5, fun _ => rfl, rfl, .inr za⟩
    subst h9
    have W : ∀ env : Tre.Env, env[1]? = some (.d false (.int (p : Int))) → env[2]? = some (.d false (fr a b)) → env[11]? = some (.d false (po (a * d))) → env[12]? = some (.d false (po (c * b))) → evE (Ph (k + 8)) G (.ife (.cmp .NotEq (.sub (.v 2) (.c (.int 0))) (.tup .nil)) (.call 39 (.cons (.v 1) (.cons (.v 11) (.cons (.v 12) .nil)))) (.tup (.cons (.tup .nil) (.cons (.tup (.cons (.c (.int 1)) .nil)) .nil)))) env s1 = .ok (.frz, frD o9) s1 := fun env g1 g2 g11 g12 => by
      rcases fit with ⟨za, ho⟩ | za
      · rw [i4.mpr za] at e4
        rw [ife_f (x := (.frz, .bool false)) (cmp_e (x0_e g2) tup0_e (cne e4)) rfl, ho]
        show _ = R.ok (Kd.frz, fr (0 : S p) 1) s1
        unfold fr
        rw [po_zero, po_one h.F]
        exact tup2_e (x := (.frz, .tuple [])) (y := (.frz, .tuple [.int 1])) tup0_e frzN (tup_e (ea_cons ev_c ea_nil) rfl (sz 1 (by omega))) frzN
      · rw [bfalse i4 za] at e4
        rw [ife_t (x := (.frz, .bool true)) (cmp_e (x0_e g2) tup0_e (cne e4)) rfl]
        exact call3 (x := (.frz, .int (p : Int))) (y := (.frz, po (a * d))) (z := (.frz, po (c * b))) (o := false) (v_e g1) frzN (v_e g11) frzN (v_e g12) frzN d5
    have Fit : ∀ env : Tre.Env, env[2]? = some (.d false (fr a b)) → env[3]? = some (.d false (fr c d)) → evE (Ph (k + 8)) G (.or (.cmp .Eq (.sub (.v 2) (.c (.int 0))) (.tup .nil)) (.cmp .GtE (.call 42 (.cons (.sub (.v 2) (.c (.int 0))) .nil)) (.call 42 (.cons (.sub (.v 3) (.c (.int 0))) .nil)))) env s1 = .ok (.frz, .bool (someB o9)) s1 := fun env g2 g3 => by
      rcases fit with ⟨za, ho⟩ | za
      · rw [i4.mpr za] at e4
        rw [ho]
        exact or_t (x := (.frz, .bool true)) (cmp_e (x0_e g2) tup0_e (ceq e4)) rfl
      · rw [bfalse i4 za] at e4
        rw [or_f (x := (.frz, .bool false)) (cmp_e (x0_e g2) tup0_e (ceq e4)) rfl]
        match px, Px, py, Py with
        | some vx, hx, some vy, hy =>
          have v1 : Val d 0 := ⟨by rw [r'.b0]; exact fun z => h.F.ne z.symm, fun i hi => absurd hi (Nat.not_lt_zero _)⟩
          have v2 : Val b 0 := ⟨by rw [r.b0]; exact fun z => h.F.ne z.symm, fun i hi => absurd hi (Nat.not_lt_zero _)⟩
          have hx : Val a vx := hx
          have hy : Val c vy := hy
          have fv := FrS.val h.F (hx.mul h.F v1) (hy.mul h.F v2) D5
          have eb : someB o9 = decide (((vy : Nat) : Int) ≤ ((vx : Nat) : Int)) := by
            rw [Bool.eq_iff_iff, decide_eq_true_iff]
            have e : someB o9 = true ↔ o9.isSome = true := by cases o9 <;> simp [someB]
            rw [e, fv]
            omega
          rw [eb]
          exact cmp_e (call1 (x := (.frz, po a)) (o := false) (x0_e g2) frzN q1) (call1 (x := (.frz, po c)) (o := false) (x0_e g3) frzN q2) (cge rfl)
        | none, hx, _, _ => exact absurd hx za
        | some _, _, none, hy => exact absurd hy zc
    refine (congrArg endF (seq_next (env' := fxE p (fr a b) (fr c d) (.d false (.int (i - 6))) (.d false (po (b * d))) (.d false due) (.d false due) (.d false (.int 12)) (.d true (.list (dt 12 (cf (rx * ry))))) w1 (.d false (po (a * d))) (.d false (po (c * b))) (.d false (.tuple (dt 12 (cf rx)))) (.d false (.tuple (dt 12 (cf ry)))) (.d false (frD o7)) (.d false (.bool (someB o9))) .e .e .e) (s' := s1) ?_)).trans (fin _)
    rw [ifs_t (x := (.frz, .bool true)) (cmp_e (x0_e rfl) tup0_e (cne e3)) rfl]
    rw [seq_next (env' := fxE p (fr a b) (fr c d) (.d false (.int (i - 6))) (.d false (po (b * d))) (.d false due) (.d false due) (.d false (.int 12)) (.d true (.list (dt 12 (cf (rx * ry))))) w1 (.d false (po (a * d))) (.d false (po (c * b))) (.d false (.tuple (dt 12 (cf rx)))) (.d false (.tuple (dt 12 (cf ry)))) (.d false (frD o9)) .e .e .e .e) (s' := s1) (asg_e (W _ rfl rfl rfl rfl) rfl)]
    rw [chk_next (repr_ne (d := frT o9) (tried3 (vx := (.frz, .int (p : Int))) (vy := (.frz, fr a b)) (vz := (.frz, fr c d)) (v_e rfl) frzN (v_e rfl) frzN (v_e rfl) frzN t6) (orNone_e rfl) (sm_frT h fun u v e => by have := lo6 u v e; omega))]
    rw [seq_next (env' := fxE p (fr a b) (fr c d) (.d false (.int (i - 6))) (.d false (po (b * d))) (.d false due) (.d false due) (.d false (.int 12)) (.d true (.list (dt 12 (cf (rx * ry))))) w1 (.d false (po (a * d))) (.d false (po (c * b))) (.d false (.tuple (dt 12 (cf rx)))) (.d false (.tuple (dt 12 (cf ry)))) (.d false (frD o9)) (.d false (.bool (someB o9))) .e .e .e) (s' := s1) (asg_e (Fit _ rfl rfl) rfl)]
    have eqb : eqF (.bool (someB o9)) (.bool (someB o9)) = some true := by simp [eqF, PyData.depth, PyData.eqv]
    rw [chk_next (cmp_e (o := .NotEq) (z := false) (v_e rfl) (isnt_e (o := o9) rfl) (cne eqb))]
    rw [seq_next (env' := fxE p (fr a b) (fr c d) (.d false (.int (i - 6))) (.d false (po (b * d))) (.d false due) (.d false due) (.d false (.int 12)) (.d true (.list (dt 12 (cf (rx * ry))))) w1 (.d false (po (a * d))) (.d false (po (c * b))) (.d false (.tuple (dt 12 (cf rx)))) (.d false (.tuple (dt 12 (cf ry)))) (.d false (frD o7)) (.d false (.bool (someB o9))) .e .e .e) (s' := s1) (asg_e (call3 (x := (.frz, .int (p : Int))) (y := (.frz, po d)) (z := (.frz, po c)) (o := false) (v_e rfl) frzN (x1_e rfl) frzN (x0_e rfl) frzN d7) rfl)]
    rw [chk_next (repr_ne (d := frT o7) (tried2 (vx := (.frz, .int (p : Int))) (vy := (.frz, fr c d)) (v_e rfl) frzN (v_e rfl) frzN t8) (orNone_e rfl) (sm_frT h fun u v e => by have := lo8 u v e; omega))]
    exact ev_nil
end
end K10
set_option maxHeartbeats 1000000
/-! K10S: moved ones right. -/
namespace K10
open PySem PySem.Spec PyProof.Rows L2 Tre PT Pol
section
variable {p : Nat} [NeZero p]
theorem q2_fr {u v : S p} (l1 : ln u ≤ 900) (l2 : ln v ≤ 900) : Q2 (fr u v) := by
  have q1 : ∀ f : S p, ln f ≤ 900 → Q1 (po f) := fun f hf zs ez => by
    unfold po at ez
    injection ez with ez
    subst ez
    rw [dt_len]; omega
  refine ⟨fun xs e => ?_, fun xs e x hx => ?_⟩
  · unfold fr at e
    injection e with e
    subst e
    show 2 ≤ 900
    omega
  · unfold fr at e
    injection e with e
    subst e
    simp only [List.mem_cons, List.not_mem_nil, or_false] at hx
    rcases hx with rfl | rfl
    · exact q1 _ l1
    · exact q1 _ l2
def isNzI : D → Bool
  | .int n => !decide (n = 0)
  | _ => true
def mvE (p : Nat) (x : D) (many one late numbers head rest number : Tre.Slot) : Tre.Env := [.src, .d false (.int (p : Int)), .d false x, many, one, late, numbers, head, rest, number]
theorem moved_right (h : Pr p) (k : Nat) (s : Src) {a b : S p} (r : Red a b) (l1 : ln a ≤ 10) (l2 : ln b ≤ 10) : ∃ s', Ph (k + 9) 48 [.src, .d (.int (p : Int)), .d (fr a b)] s = .ok (false, .bool true) s' := by
  have h2 := h.two
  obtain ⟨i, s1, p1, i0, i1⟩ := pick_ok (k + 7) s 5 (by omega) (by omega)
  obtain ⟨m, rfl⟩ := Int.eq_ofNat_of_zero_le i0
  have hm : m ≤ 4 := by omega
  refine ⟨s1, ?_⟩
  show endF (evS (Ph (k + 8)) G b__law_moved_right (mvE p (fr a b) .e .e .e .e .e .e .e) s) = _
  unfold b__law_moved_right
  rw [seq_next (env' := mvE p (fr a b) (.d false (.int (m : Nat))) .e .e .e .e .e .e) (s' := s1) (asg_e (callS1 (x := (.frz, .int 5)) (o := false) rfl ev_c frzN p1) rfl)]
  obtain ⟨rx, hrx⟩ : ∃ rx, b * rx = a := ⟨_, rowS_ok r.b0⟩
  have n1 := lnumbers_ok h (k + 6) s1 r.fa r.fb r.b0 hrx (by omega) (by omega) (m + 14) (by omega)
  have hz := red_nz h r
  have fz : Fs (zp m * a) := (zp_fs m).mul r.fa
  have lz : ln (zp m * a) ≤ 20 := by have := ln_min (zp_le m (ln_le r.fa)); omega
  rw [seq_next (env' := mvE p (fr a b) (.d false (.int (m : Nat))) .e (.d false (fr (zp m * a) b)) (.d false (.tuple (dt (m + 14) (cf rx)))) .e .e .e) (s' := s1) (par_e (ea_cons (tup2_e (x := (.frz, po (zp m * a))) (y := (.frz, po b)) (sh_e (m := m) r.fa (by omega) (by omega) (x0_e rfl) (v_e rfl)) frzN (x1_e rfl) frzN) (ea_cons (call3 (x := (.frz, .int (p : Int))) (y := (.frz, fr a b)) (z := (.frz, .int ((m : Nat) + 14 : Int))) (o := false) (v_e rfl) frzN (v_e rfl) frzN (op_e (v_e rfl) ev_c (oa _ _)) frzN n1) ea_nil)) rfl)]
  rw [fz_e (env' := mvE p (fr a b) (.d false (.int (m : Nat))) .e (.d false (fr (zp m * a) b)) (.d false (.tuple (dt (m + 14) (cf rx)))) .e .e .e) rfl]
  have sz : ∀ n, n ≤ 10 → n ≤ sizeLine := fun n h => by rw [sizeL]; omega
  -- later, and back
  obtain ⟨o, P1, q1⟩ := power_ok (b := b) h (k + 6) s1 r.fa (by omega)
  obtain ⟨o', P2, q2⟩ := lpower_ok (k + 7) s1 r.fa (by omega)
  obtain rfl := P1.uniq P2
  have dl := delayed_ok (b := b) (k + 6) s1 (m := m) r.fa (by omega) (by omega)
  have hrz : b * (zp m * rx) = zp m * a := by rw [← hrx]; grind
  obtain ⟨u', v', R', Y', _, _, e25⟩ := parts_ok h (k + 2) s1 fz r.fb r.b0 hrz (n := 20) (by omega) lz (by omega) (m := m) (by omega)
  rw [dn_zp] at Y'
  obtain ⟨rfl, rfl⟩ := R'.uniq h.F r (by rw [← Y', ← hrx]; grind)
  have e26 := (earlier_of h (k + 7) s1 e25).1 (lw_zp m rx)
  rw [chk_next (repr_ne (d := .list [pwD o, fr (zp m * u') v', fr u' v']) (lst_e (ea_cons (call1 (x := (.frz, fr u' v')) (o := false) (v_e rfl) frzN q1) (ea_cons (call2 (x := (.frz, fr u' v')) (y := (.frz, .int (m : Nat))) (o := false) (v_e rfl) frzN (v_e rfl) frzN dl) (ea_cons (call3 (x := (.frz, .int (p : Int))) (y := (.frz, fr (zp m * u') v')) (z := (.frz, .int (m : Nat))) (o := false) (v_e rfl) frzN (v_e rfl) frzN (v_e rfl) frzN e26) ea_nil))) rfl (sz 3 (by omega)))
    (lst_e (ea_cons (call1 (x := (.frz, po u')) (o := false) (x0_e rfl) frzN q2) (ea_cons (v_e rfl) (ea_cons (v_e rfl) ea_nil))) rfl (sz 3 (by omega))) (sm_list (fun x hx => by
      simp only [List.mem_cons, List.not_mem_nil, or_false] at hx
      rcases hx with rfl | rfl | rfl
      · exact (sm_pw (pw_small r.fa (by omega) P1)).mono (by omega) (by omega)
      · exact sm_fr h (by omega) (by omega)
      · exact sm_fr h (by omega) (by omega)) (by simp)))]
  -- parted
  obtain ⟨u, v, R, Y, L1, L2, f25⟩ := parts_ok h (k + 3) s1 r.fa r.fb r.b0 hrx (n := 10) (by omega) l1 l2 (m := m) (by omega)
  have f25' := parts_ok h (k + 2) s1 r.fa r.fb r.b0 hrx (n := 10) (by omega) l1 l2 (m := m) (by omega)
  obtain ⟨u2, v2, R2, Y2, _, _, g25⟩ := f25'
  obtain ⟨rfl, rfl⟩ := R2.uniq h.F R (by rw [← Y2, ← Y]; grind)
  rw [seq_next (env' := mvE p (fr u' v') (.d false (.int (m : Nat))) .e (.d false (fr (zp m * u') v')) (.d false (.tuple (dt (m + 14) (cf rx)))) (.d false (po (lw m rx))) (.d false (fr u2 v2)) .e) (s' := s1) (asg_e (x := (.frz, .tuple [po (lw m rx), fr u2 v2])) (call3 (x := (.frz, .int (p : Int))) (y := (.frz, fr u' v')) (z := (.frz, .int (m : Nat))) (o := false) (v_e rfl) frzN (v_e rfl) frzN (v_e rfl) frzN f25) rfl)]
  have tk : (dt (m + 14) (cf rx)).take m = dt m (cf rx) := by rw [dt_take, Nat.min_eq_left (by omega)]
  have tr := ltrim_po (p := p) (k + 7) s1 (row := .tuple (dt m (cf rx))) (N := m) (h := lw m rx) (.inr rfl) (lw_le m rx) (fun i hi => lw_cf hi)
  have fh : Fs (lw m rx) := ⟨m, lw_le m rx⟩
  have lh := ln_min (lw_le m rx)
  have hd : ∀ env : Tre.Env, env[6]? = some (.d false (.tuple (dt (m + 14) (cf rx)))) → env[3]? = some (.d false (.int (m : Nat))) → evE (Ph (k + 8)) G (.sl (.v 6) .nil (.cons (.v 3) .nil)) env s1 = .ok (.frz, .tuple (dt m (cf rx))) s1 := fun env g6 g3 => by
    rw [← tk]
    exact slh_e (k := .frz) (v_e g6) (v_e g3) rfl
  have tlx : ∀ env : Tre.Env, env[6]? = some (.d false (.tuple (dt (m + 14) (cf rx)))) → env[3]? = some (.d false (.int (m : Nat))) → evE (Ph (k + 8)) G (.sl (.v 6) (.cons (.v 3) .nil) .nil) env s1 = .ok (.frz, .tuple (dt 14 (cf (dn m rx)))) s1 := fun env g6 g3 => by
    have : (dt (m + 14) (cf rx)).drop m = dt 14 (cf (dn m rx)) := by
      rw [dt_drop, show m + 14 - m = 14 by omega]
      rfl
    rw [← this]
    exact sll_e (k := .frz) (v_e g6) (v_e g3) rfl
  obtain ⟨w, _, l44, hw⟩ := fr_both h (k + 2) (k + 2) s1 (fr u2 v2) (q2_fr (by omega) (by omega))
  rw [hw u2 v2 R rfl] at l44
  rw [chk_next (s1 := s1) (by
    rw [or_f (x := (.frz, .bool false)) (repr_ne (d := po (lw m rx)) (v_e rfl) (call1 (x := (.frz, .tuple (dt m (cf rx)))) (o := false) (hd _ rfl rfl) frzN tr) ((sm_po h (by omega)).mono (by omega) (by omega))) rfl]
    exact not_e (call2 (x := (.frz, .int (p : Int))) (y := (.frz, fr u2 v2)) (o := false) (v_e rfl) frzN (v_e rfl) frzN l44))]
  have nn := numbers_ok h (k + 7) s1 R.fa R.fb R.b0 Y (by omega) (by omega) 14 (by omega)
  rw [chk_next (repr_ne (d := .tuple (dt 14 (cf (dn m rx)))) (call3 (x := (.frz, .int (p : Int))) (y := (.frz, fr u2 v2)) (z := (.frz, .int 14)) (o := false) (v_e rfl) frzN (v_e rfl) frzN ev_c frzN nn) (tlx _ rfl rfl) ((sm_dt h _ (by omega)).mono (by omega) (by omega)))]
  -- earlier
  have lc := lc_gen (Φ := Ph (k + 8)) (Gg := G) (tg := .v 9) (it := .it (.sl (.v 6) .nil (.cons (.v 3) .nil))) (cond := .cmp .NotEq (.v 9) (.c (.int 0))) (elt := .v 9) (ws := [9]) (env := mvE p (fr u' v') (.d false (.int (m : Nat))) .e (.d false (fr (zp m * u') v')) (.d false (.tuple (dt (m + 14) (cf rx)))) (.d false (po (lw m rx))) (.d false (fr u2 v2)) .e) (s := s1) (s1 := s1) (pk := false) (xs := dt m (cf rx)) (p := isNzI) (g := fun x => x)
    (itF_e (hd _ rfl rfl) (.inl rfl) frzN) (by rw [dt_len, sizeL]; omega) (fun x hx => by
      obtain ⟨j, hj, rfl⟩ := List.mem_map.mp hx
      exact ⟨mvE p (fr u' v') (.d false (.int (m : Nat))) .e (.d false (fr (zp m * u') v')) (.d false (.tuple (dt (m + 14) (cf rx)))) (.d false (po (lw m rx))) (.d false (fr u2 v2)) (.d false (.int (cf rx j))), rfl, ⟨.frz, cmp_e (v_e rfl) ev_c (cnei rfl)⟩, fun _ => ⟨.frz, frzN, v_e rfl⟩⟩)
  rw [List.map_id'] at lc
  obtain ⟨B, hB⟩ : ∃ B, B = ((dt m (cf rx)).filter isNzI).isEmpty := ⟨_, rfl⟩
  have iB : B = true ↔ lw m rx = 0 := by
    rw [hB, List.isEmpty_iff, List.filter_eq_nil_iff]
    constructor
    · intro q
      refine Ser.ext (funext fun j => ?_)
      rw [lw_c, zero_c]
      by_cases hj : j < m
      · rw [if_pos hj]
        have := q (.int (cf rx j)) (List.mem_map.mpr ⟨j, List.mem_range.mpr hj, rfl⟩)
        refine cf_zero.mp (Classical.byContradiction fun z => this ?_)
        show (!decide (cf rx j = 0)) = true
        rw [dfa z] <;> rfl
      · rw [if_neg hj]
    · intro q x hx
      obtain ⟨j, hj, rfl⟩ := List.mem_map.mp hx
      have hj := List.mem_range.mp hj
      have : rx.c j = 0 := by
        have := congrArg (fun f => f.c j) q
        simp only [lw_c, zero_c] at this
        rw [if_pos hj] at this
        exact this
      show ¬ (!decide (cf rx j = 0)) = true
      rw [dtr (cf_zero.mpr this)]
      exact Bool.false_ne_true
  rw [seq_next (env' := mvE p (fr u' v') (.d false (.int (m : Nat))) (.d false (.bool B)) (.d false (fr (zp m * u') v')) (.d false (.tuple (dt (m + 14) (cf rx)))) (.d false (po (lw m rx))) (.d false (fr u2 v2)) .e) (s' := s1) (asg_e (x := (.frz, .bool B)) (cmp_e lc (lst_e ea_nil rfl (sz 0 (by omega))) (ceq (by rw [hB]; exact eqF_nil _))) rfl)]
  have ea := earlier_of h (k + 7) s1 g25
  have eX : Ph (k + 8) 26 [.d (.int (p : Int)), .d (fr u' v'), .d (.int (m : Nat))] s1 = frX (if B then some (u2, v2) else none) s1 := by
    cases hb : B with
    | true => exact ea.1 (iB.mp hb)
    | false => exact ea.2 fun z => by rw [iB.mpr z] at hb; cases hb
  refine congrArg endF (seq_ret (o := false) (ret_e (k := .frz) ?_))
  refine repr_eq (k2 := .frz) (d := frT (if B then some (u2, v2) else none)) (tried3 (vx := (.frz, .int (p : Int))) (vy := (.frz, fr u' v')) (vz := (.frz, .int (m : Nat))) (v_e rfl) frzN (v_e rfl) frzN (v_e rfl) frzN eX) ?_ (sm_frT h fun x y e => ?_)
  · cases hb : B with
    | true =>
      rw [ife_t (x := (.frz, .bool true)) (v_e rfl) rfl]
      exact v_e rfl
    | false =>
      rw [ife_f (x := (.frz, .bool false)) (v_e rfl) rfl]
      exact ev_c
  · cases hb : B with
    | true => rw [hb] at e; cases e; omega
    | false => rw [hb] at e; cases e
end
end K10
set_option maxHeartbeats 1000000
/-! K10U: the law k10. -/
namespace K10
open PySem PySem.Spec PyProof.Rows L2 Tre PT Pol
/-- the law's slots -/
def lwE (pv : D) (lap told due y turn f g factor x value : Tre.Slot) : Tre.Env := [.e, .src, .d false pv, lap, told, due, y, turn, f, g, factor, x, value]
def lapB : T := (.seq (.asg (.tup (.cons (.v 8) (.cons (.v 9) (.cons (.v 10) .nil)))) (.lc (.v 7) (.rng (.cons (.c (.int 3)) .nil)) (.c (.bool true)) (.call 40 (.csrc 1 (.cons (.v 2) (.cons (.c (.int 6)) .nil)))) [7])) (.seq (.ifs (.cmp .Eq (.call 28 (.csrc 1 (.cons (.c (.int 2)) .nil))) (.c (.int 0))) (.seq (.par (.cons (.ov 8) (.cons (.ov 9) .nil)) (.cons (.call 34 (.cons (.v 2) (.cons (.v 8) (.cons (.v 10) .nil)))) (.cons (.call 34 (.cons (.v 2) (.cons (.v 9) (.cons (.v 10) .nil)))) .nil))) (.fz [8, 9] .nil)) .nil) (.seq (.ifs (.not (.call 46 (.csrc 1 (.cons (.v 2) (.cons (.v 8) (.cons (.v 9) .nil)))))) (.seq (.ret (.c (.bool false))) .nil) .nil) (.seq (.asg (.v 5) (.call 39 (.cons (.v 2) (.cons (.v 8) (.cons (.v 9) .nil))))) (.seq (.ifs (.cmp .NotEq (.bi .repr (.cons (.tried 15 0 "none" (.cons (.v 2) (.cons (.v 8) (.cons (.v 9) .nil)))) .nil)) (.bi .repr (.cons (.ife (.cmp .IsNot (.v 5) (.c .none)) (.v 5) (.c (.str "none"))) .nil))) (.seq (.ret (.c (.bool false))) .nil) .nil) (.seq (.ifs (.cmp .NotEq (.bi .repr (.cons (.call 16 (.cons (.v 8) .nil)) .nil)) (.bi .repr (.cons (.tup (.cons (.v 8) (.cons (.tup (.cons (.c (.int 1)) .nil)) .nil))) .nil))) (.seq (.ret (.c (.bool false))) .nil) .nil) (.seq (.par (.cons (.ov 11) (.cons (.ov 6) .nil)) (.cons (.call 41 (.csrc 1 (.cons (.v 2) (.cons (.c (.int 5)) .nil)))) (.cons (.call 41 (.csrc 1 (.cons (.v 2) (.cons (.c (.int 5)) .nil)))) .nil))) (.fz [6, 11] (.seq (.asg (.v 6) (.ife (.cmp .Eq (.call 28 (.csrc 1 (.cons (.c (.int 6)) .nil))) (.c (.int 0))) (.v 11) (.v 6))) (.seq (.ifs (.or (.not (.call 47 (.csrc 1 (.cons (.v 2) (.cons (.v 11) (.cons (.v 6) .nil)))))) (.not (.call 48 (.csrc 1 (.cons (.v 2) (.cons (.v 11) .nil)))))) (.seq (.ret (.c (.bool false))) .nil) .nil) (.seq (.for (.v 7) (.rng (.cons (.c (.int 5)) .nil)) (.seq (.asg (.v 12) (.call 45 (.csrc 1 (.cons (.v 11) .nil)))) (.seq (.asg (.v 4) (.lst (.cons (.call 14 (.cons (.v 2) (.cons (.v 12) .nil))) (.cons (.call 2 (.cons (.v 2) (.cons (.v 12) .nil))) .nil)))) (.seq (.ifs (.cmp .NotEq (.bi .repr (.cons (.v 4) .nil)) (.bi .repr (.cons (.lst (.cons (.call 44 (.cons (.v 2) (.cons (.v 12) .nil))) (.cons (.call 43 (.cons (.v 2) (.cons (.v 12) .nil))) .nil))) .nil))) (.seq (.ret (.c (.bool false))) .nil) .nil) .nil)))) (.seq (.ifs (.cmp .NotEq (.lst (.cons (.call 14 (.cons (.v 2) (.cons (.v 11) .nil))) (.cons (.call 2 (.cons (.v 2) (.cons (.v 8) .nil))) (.cons (.call 2 (.cons (.v 2) (.cons (.bi .list (.cons (.v 8) .nil)) .nil))) .nil)))) (.lst (.cons (.c (.bool true)) (.cons (.c (.bool true)) (.cons (.c (.bool false)) .nil))))) (.seq (.ret (.c (.bool false))) .nil) .nil) .nil))))))))))))
section
variable {p : Nat} [NeZero p]
section
variable {Φ : Nat → List Tre.Arg → Src → R (Bool × D)} {Gg : Nat → Option D} {a b : T} {env : Tre.Env} {s s1 s2 s3 : Src}
theorem callS2 {f i : Nat} {x y : Kd × D} {o : Bool} {d : D} (h : env[i]? = some .src) (h1 : evE Φ Gg a env s = .ok x s1) (hk : x.1 ≠ .peek) (h2 : evE Φ Gg b env s1 = .ok y s2) (hk2 : y.1 ≠ .peek) (h3 : Φ f [.src, .d x.2, .d y.2] s2 = .ok (o, d) s3) : evE Φ Gg (.call f (.csrc i (.cons a (.cons b .nil)))) env s = .ok (if o then .own else .frz, d) s3 := by
  simp only [evE, evG, h, h1, h2, R.bind_ok, if_neg hk, if_neg hk2, h3]
theorem callS3 {c : T} {f i : Nat} {x y z : Kd × D} {o : Bool} {d : D} {s4 : Src} (h : env[i]? = some .src) (h1 : evE Φ Gg a env s = .ok x s1) (hk : x.1 ≠ .peek) (h2 : evE Φ Gg b env s1 = .ok y s2) (hk2 : y.1 ≠ .peek) (h4 : evE Φ Gg c env s2 = .ok z s3) (hk3 : z.1 ≠ .peek) (h3 : Φ f [.src, .d x.2, .d y.2, .d z.2] s3 = .ok (o, d) s4) : evE Φ Gg (.call f (.csrc i (.cons a (.cons b (.cons c .nil))))) env s = .ok (if o then .own else .frz, d) s4 := by
  simp only [evE, evG, h, h1, h2, h4, R.bind_ok, if_neg hk, if_neg hk2, if_neg hk3, h3]
/-- a loop whose steps change the source -/
theorem for_src {tg it body : T} {xs : List D} (I : Tre.Env → Prop) (hi : evI Φ Gg it env s = .ok (false, xs) s1) (h0 : I env)
    (h : ∀ x env s, x ∈ xs → I env → ∃ env1 env2 s', bindT tg (.frz, x) env = some env1 ∧ evS Φ Gg body env1 s = .ok (.next env2) s' ∧ I env2) :
    ∃ env' s', evS Φ Gg (.for tg it body) env s = .ok (.next env') s' ∧ I env' := by
  obtain ⟨env', s', e, q⟩ := forL_inv (f := fun x env s => (R.of (bindT tg (.frz, x) env) s).bind fun env' s => evS Φ Gg body env' s) (I := fun _ env => I env) (xs := xs) (i := 0) (env := env) (s := s1) (fun i x env s hx hI => by
    obtain ⟨env1, env2, s', e1, e2, e3⟩ := h x env s hx hI
    exact ⟨env2, s', by rw [e1, R.of_some, R.bind_ok, e2], e3⟩) h0
  refine ⟨env', s', ?_, q⟩
  simp only [evS, hi, R.bind_ok]
  exact e
end
theorem eqF_bools (a b c : Bool) : eqF (.list [.bool a, .bool b, .bool c]) (.list [.bool true, .bool true, .bool false]) = some (a && (b && !c)) := by
  unfold eqF
  rw [if_pos (Nat.le_trans (Nat.min_le_right _ _) (by simp [PyData.depth, PyData.depthAll]))]
  cases a <;> cases b <;> cases c <;> rfl
theorem fr_one (h : Pr p) {f : S p} : PyData.tuple [po f, .tuple [.int 1]] = fr f 1 := by
  unfold fr
  rw [po_one h.F]
theorem lap_ok (h : Pr p) (s : Src) (lap told due y turn f g factor x value : Tre.Slot) : ∃ t1 t2 t3 t4 t5 t6 t7 t8 t9 s', evS (Ph 9) G lapB (lwE (.int (p : Int)) lap told due y turn f g factor x value) s = .ok (.next (lwE (.int (p : Int)) lap t1 t2 t3 t4 t5 t6 t7 t8 t9)) s' := by
  have h2 := h.two
  have sz : ∀ n, n ≤ 10 → n ≤ sizeLine := fun n h => by rw [sizeL]; omega
  unfold lapB
  -- three polynomials
  obtain ⟨ys, s1, lc, hl, hq⟩ := lc_inv (Φ := Ph 9) (Gg := G) (tg := .v 7) (it := .rng (.cons (.c (.int 3)) .nil)) (elt := .call 40 (.csrc 1 (.cons (.v 2) (.cons (.c (.int 6)) .nil)))) (ws := [7]) (env := lwE (.int (p : Int)) lap told due y turn f g factor x value) (s := s) (s1 := s) (pk := false) (xs := rngD 0 3) (Q := fun v => ∃ f : S p, Fs f ∧ ln f ≤ 6 ∧ v = po f)
    (rng1_e (j := 3) ev_c (by omega)) (by rw [rng_dt, dt_len]; exact sz 3 (by omega)) (fun v hv => by
      refine ⟨lwE (.int (p : Int)) lap told due y (.d false v) f g factor x value, rfl, fun s => ?_⟩
      obtain ⟨f', s', ff, lf, e⟩ := polynomial_ok h 7 s 6 (by omega)
      exact ⟨.frz, po f', s', frzN, callS2 (x := (.frz, .int (p : Int))) (y := (.frz, .int 6)) (o := false) rfl (v_e rfl) frzN ev_c frzN e, f', ff, lf, rfl⟩)
  rw [rng_dt, dt_len] at hl
  match ys, hl, hq with
  | [y1, y2, y3], _, hq =>
  obtain ⟨f0, F0, lf0, rfl⟩ := hq y1 (by simp)
  obtain ⟨g0, G0, lg0, rfl⟩ := hq y2 (by simp)
  obtain ⟨c0, C0, lc0, rfl⟩ := hq y3 (by simp)
  rw [seq_next (env' := lwE (.int (p : Int)) lap told due y turn (.d false (po f0)) (.d false (po g0)) (.d false (po c0)) x value) (s' := s1) (asg_e lc rfl)]
  -- times a factor
  obtain ⟨i, s2, p1, i0, i1⟩ := pick_ok 8 s1 2 (by omega) (by omega)
  have c2 : evE (Ph 9) G (.cmp .Eq (.call 28 (.csrc 1 (.cons (.c (.int 2)) .nil))) (.c (.int 0))) (lwE (.int (p : Int)) lap told due y turn (.d false (po f0)) (.d false (po g0)) (.d false (po c0)) x value) s1 = .ok (.frz, .bool (decide (i = 0))) s2 := cmp_e (callS1 (x := (.frz, .int 2)) (o := false) rfl ev_c frzN p1) ev_c (ceqi rfl)
  obtain ⟨f1, g1, F1, G1, lf1, lg1, st⟩ : ∃ f1 g1 : S p, Fs f1 ∧ Fs g1 ∧ ln f1 ≤ 12 ∧ ln g1 ≤ 12 ∧ evS (Ph 9) G (.ifs (.cmp .Eq (.call 28 (.csrc 1 (.cons (.c (.int 2)) .nil))) (.c (.int 0))) (.seq (.par (.cons (.ov 8) (.cons (.ov 9) .nil)) (.cons (.call 34 (.cons (.v 2) (.cons (.v 8) (.cons (.v 10) .nil)))) (.cons (.call 34 (.cons (.v 2) (.cons (.v 9) (.cons (.v 10) .nil)))) .nil))) (.fz [8, 9] .nil)) .nil) (lwE (.int (p : Int)) lap told due y turn (.d false (po f0)) (.d false (po g0)) (.d false (po c0)) x value) s1 = .ok (.next (lwE (.int (p : Int)) lap told due y turn (.d false (po f1)) (.d false (po g1)) (.d false (po c0)) x value)) s2 := by
    by_cases hi : i = 0
    · rw [dtr hi] at c2
      have m1 := lmul_ok h 7 s2 F0 C0 (by omega) (by omega)
      have m2 := lmul_ok h 7 s2 G0 C0 (by omega) (by omega)
      have L1 := mul_ln F0 C0
      have L2 := mul_ln G0 C0
      refine ⟨f0 * c0, g0 * c0, F0.mul C0, G0.mul C0, by omega, by omega, ?_⟩
      rw [ifs_t c2 rfl]
      rw [seq_next (env' := lwE (.int (p : Int)) lap told due y turn (.d false (po (f0 * c0))) (.d false (po (g0 * c0))) (.d false (po c0)) x value) (s' := s2) (par_e (ea_cons (call3 (x := (.frz, .int (p : Int))) (y := (.frz, po f0)) (z := (.frz, po c0)) (o := false) (v_e rfl) frzN (v_e rfl) frzN (v_e rfl) frzN m1) (ea_cons (call3 (x := (.frz, .int (p : Int))) (y := (.frz, po g0)) (z := (.frz, po c0)) (o := false) (v_e rfl) frzN (v_e rfl) frzN (v_e rfl) frzN m2) ea_nil)) rfl)]
      rw [fz_e (env' := lwE (.int (p : Int)) lap told due y turn (.d false (po (f0 * c0))) (.d false (po (g0 * c0))) (.d false (po c0)) x value) rfl, ev_nil]
    · rw [dfa hi] at c2
      exact ⟨f0, g0, F0, G0, by omega, by omega, by rw [ifs_f c2 rfl, ev_nil]⟩
  rw [seq_next st]
  -- polynomials right
  obtain ⟨s3, r1⟩ := polys_right h 4 s2 F1 G1 (by omega) (by omega)
  rw [chk_next (not_e (callS3 (x := (.frz, .int (p : Int))) (y := (.frz, po f1)) (z := (.frz, po g1)) (o := false) rfl (v_e rfl) frzN (v_e rfl) frzN (v_e rfl) frzN r1))]
  -- a fraction of them
  obtain ⟨o, D1, lo, e39⟩ := lfraction_ok h 4 s3 F1 G1 (by omega) (by omega)
  obtain ⟨o', D2, lo', e15⟩ := fraction_ok h 5 s3 F1 G1 (by omega) (by omega)
  obtain rfl := D1.uniq h.F D2
  rw [seq_next (env' := lwE (.int (p : Int)) lap told (.d false (frD o)) y turn (.d false (po f1)) (.d false (po g1)) (.d false (po c0)) x value) (s' := s3) (asg_e (call3 (x := (.frz, .int (p : Int))) (y := (.frz, po f1)) (z := (.frz, po g1)) (o := false) (v_e rfl) frzN (v_e rfl) frzN (v_e rfl) frzN e39) rfl)]
  rw [chk_next (repr_ne (d := frT o) (tried3 (vx := (.frz, .int (p : Int))) (vy := (.frz, po f1)) (vz := (.frz, po g1)) (v_e rfl) frzN (v_e rfl) frzN (v_e rfl) frzN e15) (orNone_e rfl) (sm_frT h fun u v e => by have := lo u v e; omega))]
  rw [chk_next (repr_ne (d := fr f1 1) (call1 (x := (.frz, po f1)) (o := false) (v_e rfl) frzN (whole_ok h 8 s3 f1)) (by
    rw [← fr_one h]
    exact tup2_e (x := (.frz, po f1)) (y := (.frz, .tuple [.int 1])) (v_e rfl) frzN (tup_e (ea_cons ev_c ea_nil) rfl (sz 1 (by omega))) frzN) ((sm_fr h (by omega) (by rw [ln_one h.F]; omega)).mono (by omega) (by omega)))]
  -- fractions drawn
  obtain ⟨a, b, s4, R1, la, lb, d1⟩ := drawn_ok h 3 s3
  obtain ⟨c, d, s5, R2, lcc, ld, d2⟩ := drawn_ok h 3 s4
  rw [seq_next (env' := lwE (.int (p : Int)) lap told (.d false (frD o)) (.d false (fr c d)) turn (.d false (po f1)) (.d false (po g1)) (.d false (po c0)) (.d false (fr a b)) value) (s' := s5) (par_e (ea_cons (callS2 (x := (.frz, .int (p : Int))) (y := (.frz, .int 5)) (o := false) rfl (v_e rfl) frzN ev_c frzN d1) (ea_cons (callS2 (x := (.frz, .int (p : Int))) (y := (.frz, .int 5)) (o := false) rfl (v_e rfl) frzN ev_c frzN d2) ea_nil)) rfl)]
  rw [fz_e (env' := lwE (.int (p : Int)) lap told (.d false (frD o)) (.d false (fr c d)) turn (.d false (po f1)) (.d false (po g1)) (.d false (po c0)) (.d false (fr a b)) value) rfl]
  obtain ⟨j, s6, p2, j0, j1⟩ := pick_ok 8 s5 6 (by omega) (by omega)
  have c6 : evE (Ph 9) G (.cmp .Eq (.call 28 (.csrc 1 (.cons (.c (.int 6)) .nil))) (.c (.int 0))) (lwE (.int (p : Int)) lap told (.d false (frD o)) (.d false (fr c d)) turn (.d false (po f1)) (.d false (po g1)) (.d false (po c0)) (.d false (fr a b)) value) s5 = .ok (.frz, .bool (decide (j = 0))) s6 := cmp_e (callS1 (x := (.frz, .int 6)) (o := false) rfl ev_c frzN p2) ev_c (ceqi rfl)
  obtain ⟨c', d', R3, lc', ld', st2⟩ : ∃ c' d' : S p, Red c' d' ∧ ln c' ≤ 5 ∧ ln d' ≤ 5 ∧ evE (Ph 9) G (.ife (.cmp .Eq (.call 28 (.csrc 1 (.cons (.c (.int 6)) .nil))) (.c (.int 0))) (.v 11) (.v 6)) (lwE (.int (p : Int)) lap told (.d false (frD o)) (.d false (fr c d)) turn (.d false (po f1)) (.d false (po g1)) (.d false (po c0)) (.d false (fr a b)) value) s5 = .ok (.frz, fr c' d') s6 := by
    by_cases hj : j = 0
    · rw [dtr hj] at c6
      exact ⟨a, b, R1, la, lb, by rw [ife_t c6 rfl]; exact v_e rfl⟩
    · rw [dfa hj] at c6
      exact ⟨c, d, R2, lcc, ld, by rw [ife_f c6 rfl]; exact v_e rfl⟩
  rw [seq_next (env' := lwE (.int (p : Int)) lap told (.d false (frD o)) (.d false (fr c' d')) turn (.d false (po f1)) (.d false (po g1)) (.d false (po c0)) (.d false (fr a b)) value) (s' := s6) (asg_e st2 rfl)]
  obtain ⟨s7, r2⟩ := fracs_right h 0 s6 R1 R3 (by omega) (by omega) (by omega) (by omega)
  obtain ⟨s8, r3⟩ := moved_right h 0 s7 R1 (by omega) (by omega)
  rw [chk_next (s1 := s8) (by
    rw [or_f (not_e (callS3 (x := (.frz, .int (p : Int))) (y := (.frz, fr a b)) (z := (.frz, fr c' d')) (o := false) rfl (v_e rfl) frzN (v_e rfl) frzN (v_e rfl) frzN r2)) rfl]
    exact not_e (callS2 (x := (.frz, .int (p : Int))) (y := (.frz, fr a b)) (o := false) rfl (v_e rfl) frzN (v_e rfl) frzN r3))]
  -- bent ones
  obtain ⟨env', s9, e9, told', turn', value', rfl⟩ := for_src (Φ := Ph 9) (Gg := G) (tg := .v 7) (it := .rng (.cons (.c (.int 5)) .nil)) (body := .seq (.asg (.v 12) (.call 45 (.csrc 1 (.cons (.v 11) .nil)))) (.seq (.asg (.v 4) (.lst (.cons (.call 14 (.cons (.v 2) (.cons (.v 12) .nil))) (.cons (.call 2 (.cons (.v 2) (.cons (.v 12) .nil))) .nil)))) (.seq (.ifs (.cmp .NotEq (.bi .repr (.cons (.v 4) .nil)) (.bi .repr (.cons (.lst (.cons (.call 44 (.cons (.v 2) (.cons (.v 12) .nil))) (.cons (.call 43 (.cons (.v 2) (.cons (.v 12) .nil))) .nil))) .nil))) (.seq (.ret (.c (.bool false))) .nil) .nil) .nil)))
    (env := lwE (.int (p : Int)) lap told (.d false (frD o)) (.d false (fr c' d')) turn (.d false (po f1)) (.d false (po g1)) (.d false (po c0)) (.d false (fr a b)) value) (s := s8) (s1 := s8) (xs := rngD 0 5)
    (fun env => ∃ told turn value, env = lwE (.int (p : Int)) lap told (.d false (frD o)) (.d false (fr c' d')) turn (.d false (po f1)) (.d false (po g1)) (.d false (po c0)) (.d false (fr a b)) value)
    (rng1_e (j := 5) ev_c (by omega)) ⟨told, turn, value, rfl⟩ (fun v env s hv ⟨told, turn, value, hE⟩ => by
      subst hE
      obtain ⟨w, s', ew, hw⟩ := bent_ok 4 (a := a) (b := b) (by omega) (by omega) s
      obtain ⟨q, q14, q44, _⟩ := fr_both h 4 3 s' w hw
      have q2 := poly_is (p := p) 6 s' w (fun xs e => by have := hw.1 xs e; omega)
      have q43 := lpoly_is (p := p) 6 s' w (fun xs e => by have := hw.1 xs e; omega)
      refine ⟨lwE (.int (p : Int)) lap told (.d false (frD o)) (.d false (fr c' d')) (.d false v) (.d false (po f1)) (.d false (po g1)) (.d false (po c0)) (.d false (fr a b)) value, lwE (.int (p : Int)) lap (.d false (.list [.bool q, .bool (isPo p w)])) (.d false (frD o)) (.d false (fr c' d')) (.d false v) (.d false (po f1)) (.d false (po g1)) (.d false (po c0)) (.d false (fr a b)) (.d false w), s', rfl, ?_, _, _, _, rfl⟩
      rw [seq_next (env' := lwE (.int (p : Int)) lap told (.d false (frD o)) (.d false (fr c' d')) (.d false v) (.d false (po f1)) (.d false (po g1)) (.d false (po c0)) (.d false (fr a b)) (.d false w)) (s' := s') (asg_e (callS1 (x := (.frz, fr a b)) (o := false) rfl (v_e rfl) frzN ew) rfl)]
      rw [seq_next (env' := lwE (.int (p : Int)) lap (.d false (.list [.bool q, .bool (isPo p w)])) (.d false (frD o)) (.d false (fr c' d')) (.d false v) (.d false (po f1)) (.d false (po g1)) (.d false (po c0)) (.d false (fr a b)) (.d false w)) (s' := s') (asg_e (lst_e (ea_cons (call2 (x := (.frz, .int (p : Int))) (y := (.frz, w)) (o := false) (v_e rfl) frzN (v_e rfl) frzN q14) (ea_cons (call2 (x := (.frz, .int (p : Int))) (y := (.frz, w)) (o := false) (v_e rfl) frzN (v_e rfl) frzN q2) ea_nil)) rfl (sz 2 (by omega))) rfl)]
      rw [chk_next (repr_ne (d := .list [.bool q, .bool (isPo p w)]) (v_e rfl) (lst_e (ea_cons (call2 (x := (.frz, .int (p : Int))) (y := (.frz, w)) (o := false) (v_e rfl) frzN (v_e rfl) frzN q44) (ea_cons (call2 (x := (.frz, .int (p : Int))) (y := (.frz, w)) (o := false) (v_e rfl) frzN (v_e rfl) frzN q43) ea_nil)) rfl (sz 2 (by omega))) (sm_list (fun x hx => by
          simp only [List.mem_cons, List.not_mem_nil, or_false] at hx
          rcases hx with rfl | rfl
          · exact Sm.bool.mono (by omega) (by omega)
          · exact Sm.bool.mono (by omega) (by omega)) (by simp)))]
      exact ev_nil)
  rw [seq_next e9]
  -- what they are
  obtain ⟨q, q14, _, hq1⟩ := fr_both h 4 3 s9 (fr a b) (q2_fr (by omega) (by omega))
  rw [hq1 a b R1 rfl] at q14
  have q2 := poly_is (p := p) 6 s9 (po f1) (fun xs e => by
    unfold po at e
    injection e with e
    rw [← e, dt_len]; omega)
  rw [po_isPo f1 F1] at q2
  have q3 := poly_is (p := p) 6 s9 (.list (dt (ln f1) (cf f1))) (fun xs e => by cases e)
  rw [chk_next (cmp_e (o := .NotEq) (z := false) (lst_e (ea_cons (call2 (x := (.frz, .int (p : Int))) (y := (.frz, fr a b)) (o := false) (v_e rfl) frzN (v_e rfl) frzN q14) (ea_cons (call2 (x := (.frz, .int (p : Int))) (y := (.frz, po f1)) (o := false) (v_e rfl) frzN (v_e rfl) frzN q2) (ea_cons (call2 (x := (.frz, .int (p : Int))) (y := (.own, .list (dt (ln f1) (cf f1)))) (o := false) (v_e rfl) frzN (bi1 (x := (.frz, po f1)) (v_e rfl) rfl) ownN q3) ea_nil))) rfl (sz 3 (by omega))) (lst_e (ea_cons ev_c (ea_cons ev_c (ea_cons ev_c ea_nil))) rfl (sz 3 (by omega))) (cne (eqF_bools true true false)))]
  exact ⟨told', _, _, turn', _, _, _, _, value', s9, ev_nil⟩
end
end K10
set_option maxHeartbeats 1000000
/-! K10V: the end of the law k10, and the whole. -/
namespace K10
open PySem PySem.Spec PyProof.Rows L2 Tre PT Pol
theorem pr2 : Pr 2 := ⟨⟨by decide +kernel, by decide +kernel⟩, by omega⟩
theorem pr3 : Pr 3 := ⟨⟨by decide +kernel, by decide +kernel⟩, by omega⟩
theorem pr5 : Pr 5 := ⟨⟨by decide +kernel, by decide +kernel⟩, by omega⟩
section
variable {p : Nat} [NeZero p]
theorem po_at {f : S p} {n : Nat} (h1 : Le f n) (h0 : 0 < n) (h2 : f.c (n - 1) ≠ 0) {l : List D} (e : dt n (cf f) = l) : po f = .tuple l := by
  unfold po
  rw [ln_eq h1 h0 h2, e]
end
def g12 : S 3 := ⟨fun n => if n = 0 then 1 else if n = 1 then 2 else 0⟩
def g11 : S 2 := ⟨fun n => if n = 0 then 1 else if n = 1 then 1 else 0⟩
theorem g12_le : Le g12 2 := fun i hi => by
  show (if i = 0 then (1 : _root_.Fin 3) else if i = 1 then 2 else 0) = 0
  rw [if_neg (by omega), if_neg (by omega)]
theorem g11_le : Le g11 2 := fun i hi => by
  show (if i = 0 then (1 : _root_.Fin 2) else if i = 1 then 1 else 0) = 0
  rw [if_neg (by omega), if_neg (by omega)]
theorem g12_po : po g12 = .tuple [.int 1, .int 2] := po_at g12_le (by omega) (by decide +kernel) rfl
theorem g11_po : po g11 = .tuple [.int 1, .int 1] := po_at g11_le (by omega) (by decide +kernel) rfl
theorem f21_po : po (cst (2 : _root_.Fin 3) * g12) = .tuple [.int 2, .int 1] := po_at (le_cst _ g12_le) (by omega) (by rw [cst_c']; decide +kernel) (by
  show [PyData.int _, PyData.int _] = _
  unfold cf
  rw [cst_c', cst_c']
  rfl)
theorem z11_po : po (zp 1 * g11) = .tuple [.int 0, .int 1, .int 1] := po_at (zp_le 1 g11_le) (by omega) (by rw [zp_c]; decide +kernel) (by
  show [PyData.int _, PyData.int _, PyData.int _] = _
  unfold cf
  rw [zp_c, zp_c, zp_c]
  rfl)
theorem z12_po : po (zp 1 * g12) = .tuple [.int 0, .int 1, .int 2] := po_at (zp_le 1 g12_le) (by omega) (by rw [zp_c]; decide +kernel) (by
  show [PyData.int _, PyData.int _, PyData.int _] = _
  unfold cf
  rw [zp_c, zp_c, zp_c]
  rfl)
theorem zp1_le {p : Nat} [NeZero p] : Le (zp 1 : S p) 2 := fun i hi => by rw [zp_at, if_neg (by omega)]
theorem z2_po : po (zp 1 : S 2) = .tuple [.int 0, .int 1] := po_at zp1_le (by omega) (by decide +kernel) rfl
theorem z3_po : po (zp 1 : S 3) = .tuple [.int 0, .int 1] := po_at zp1_le (by omega) (by decide +kernel) rfl
theorem const1 (s : Src) : Ph 9 15 [.d (.int 3), .d (.tuple [.int 2, .int 1]), .d (.tuple [.int 1, .int 2])] s = .ok (false, .tuple [.tuple [.int 2], .tuple [.int 1]]) s := by
  have f1 : Fs g12 := ⟨2, g12_le⟩
  obtain ⟨o, fo, _, e⟩ := fraction_ok pr3 5 s (f := cst 2 * g12) (g := g12) (fs_cst 2 f1) f1 (Nat.le_trans (ln_min (le_cst 2 g12_le)) (by omega)) (Nat.le_trans (ln_min g12_le) (by omega))
  obtain rfl := fo.uniq pr3.F (.told (nz0 pr3.F rfl) (red1 pr3 (Fs.cst 2)) (by grind))
  rw [f21_po, g12_po] at e
  refine e.trans ?_
  show R.ok (false, fr (cst 2) 1) s = _
  unfold fr
  rw [po_one pr3.F, po_cst (by decide)]
  rfl
theorem const2 (s : Src) : Ph 9 15 [.d (.int 2), .d (.tuple [.int 0, .int 1, .int 1]), .d (.tuple [.int 0, .int 1])] s = .ok (false, .tuple [.tuple [.int 1, .int 1], .tuple [.int 1]]) s := by
  have f1 : Fs g11 := ⟨2, g11_le⟩
  obtain ⟨o, fo, _, e⟩ := fraction_ok pr2 5 s (f := zp 1 * g11) (g := zp 1) ((zp_fs 1).mul f1) (zp_fs 1) (Nat.le_trans (ln_min (zp_le 1 g11_le)) (by omega)) (Nat.le_trans (ln_min zp1_le) (by omega))
  obtain rfl := fo.uniq pr2.F (.told (nz_iff.mpr ⟨1, by decide⟩) (red1 pr2 f1) (by grind))
  rw [z11_po, z2_po] at e
  refine e.trans ?_
  show R.ok (false, fr g11 1) s = _
  unfold fr
  rw [po_one pr2.F, g11_po]
theorem const3 (s : Src) : Ph 9 23 [.d (.int 3), .d (.tuple [.tuple [.int 0, .int 1], .tuple [.int 1]]), .d (.tuple [.tuple [.int 1], .tuple [.int 1, .int 2]])] s = .ok (false, .tuple [.tuple [.int 0, .int 1, .int 2], .tuple [.int 1]]) s := by
  have f1 : Fs g12 := ⟨2, g12_le⟩
  have r1 : Red (zp 1 : S 3) 1 := red1 pr3 (zp_fs 1)
  have r2 : Red (1 : S 3) g12 := ⟨Fs.one, f1, rfl, 1, 0, Fs.one, Fs.zero, by grind⟩
  obtain ⟨o, fo, _, e⟩ := ratio_ok pr3 4 s r1 r2 (n := 2) (by omega) (ln_min zp1_le) (by rw [ln_one pr3.F]; omega) (by rw [ln_one pr3.F]; omega) (ln_min g12_le)
  obtain rfl := fo.uniq pr3.F (.told (nz0 pr3.F (b := 1 * 1) (by decide)) (red1 pr3 ((zp_fs 1).mul f1)) (by grind))
  unfold fr at e
  rw [z3_po, po_one pr3.F, g12_po] at e
  refine e.trans ?_
  show R.ok (false, fr (zp 1 * g12) 1) s = _
  unfold fr
  rw [po_one pr3.F, z12_po]
def endX : T := .lst (.cons (.call 15 (.cons (.c (.int 3)) (.cons (.tup (.cons (.c (.int 2)) (.cons (.c (.int 1)) .nil))) (.cons (.tup (.cons (.c (.int 1)) (.cons (.c (.int 2)) .nil))) .nil)))) (.cons (.call 15 (.cons (.c (.int 2)) (.cons (.tup (.cons (.c (.int 0)) (.cons (.c (.int 1)) (.cons (.c (.int 1)) .nil)))) (.cons (.tup (.cons (.c (.int 0)) (.cons (.c (.int 1)) .nil))) .nil)))) (.cons (.call 23 (.cons (.c (.int 3)) (.cons (.tup (.cons (.tup (.cons (.c (.int 0)) (.cons (.c (.int 1)) .nil))) (.cons (.tup (.cons (.c (.int 1)) .nil)) .nil))) (.cons (.tup (.cons (.tup (.cons (.c (.int 1)) .nil)) (.cons (.tup (.cons (.c (.int 1)) (.cons (.c (.int 2)) .nil))) .nil))) .nil)))) .nil)))
def endY : T := .lst (.cons (.tup (.cons (.tup (.cons (.c (.int 2)) .nil)) (.cons (.tup (.cons (.c (.int 1)) .nil)) .nil))) (.cons (.tup (.cons (.tup (.cons (.c (.int 1)) (.cons (.c (.int 1)) .nil))) (.cons (.tup (.cons (.c (.int 1)) .nil)) .nil))) (.cons (.tup (.cons (.tup (.cons (.c (.int 0)) (.cons (.c (.int 1)) (.cons (.c (.int 2)) .nil)))) (.cons (.tup (.cons (.c (.int 1)) .nil)) .nil))) .nil)))
theorem law_eq : b_law = .seq (.asg (.v 2) (.call 29 (.csrc 1 (.cons (.lst (.cons (.c (.int 2)) (.cons (.c (.int 3)) (.cons (.c (.int 5)) .nil)))) .nil)))) (.seq (.for (.v 3) (.rng (.cons (.c (.int 3)) .nil)) lapB) (.seq (.asg (.v 4) endX) (.seq (.ret (.cmp .Eq (.bi .repr (.cons (.v 4) .nil)) (.bi .repr (.cons endY .nil)))) .nil))) := rfl
def endD : D := .list [.tuple [.tuple [.int 2], .tuple [.int 1]], .tuple [.tuple [.int 1, .int 1], .tuple [.int 1]], .tuple [.tuple [.int 0, .int 1, .int 2], .tuple [.int 1]]]
theorem t1 {env : Tre.Env} {s : Src} {a : Int} : evE (Ph 9) G (.tup (.cons (.c (.int a)) .nil)) env s = .ok (.frz, .tuple [.int a]) s := tup_e (ea_cons ev_c ea_nil) rfl (by simp [sizeL])
theorem t2 {env : Tre.Env} {s : Src} {a b : Int} : evE (Ph 9) G (.tup (.cons (.c (.int a)) (.cons (.c (.int b)) .nil))) env s = .ok (.frz, .tuple [.int a, .int b]) s := tup_e (ea_cons ev_c (ea_cons ev_c ea_nil)) rfl (by simp [sizeL])
theorem t3 {env : Tre.Env} {s : Src} {a b c : Int} : evE (Ph 9) G (.tup (.cons (.c (.int a)) (.cons (.c (.int b)) (.cons (.c (.int c)) .nil)))) env s = .ok (.frz, .tuple [.int a, .int b, .int c]) s := tup_e (ea_cons ev_c (ea_cons ev_c (ea_cons ev_c ea_nil))) rfl (by simp [sizeL])
theorem endX_e (env : Tre.Env) (s : Src) : evE (Ph 9) G endX env s = .ok (.own, endD) s :=
  lst_e (ea_cons (call3 (x := (.frz, .int 3)) (o := false) ev_c frzN t2 frzN t2 frzN (const1 s)) (ea_cons (call3 (x := (.frz, .int 2)) (o := false) ev_c frzN t3 frzN t2 frzN (const2 s))
    (ea_cons (call3 (x := (.frz, .int 3)) (o := false) ev_c frzN (tup2_e t2 frzN t1 frzN) frzN (tup2_e t1 frzN t2 frzN) frzN (const3 s)) ea_nil))) rfl (by simp [sizeL])
theorem endY_e (env : Tre.Env) (s : Src) : evE (Ph 9) G endY env s = .ok (.own, endD) s :=
  lst_e (ea_cons (tup2_e t1 frzN t1 frzN) (ea_cons (tup2_e t2 frzN t1 frzN) (ea_cons (tup2_e t3 frzN t1 frzN) ea_nil))) rfl (by simp [sizeL])
theorem end_sm : Sm 5 300000 endD := by
  have e : endD = .list [fr (cst (2 : _root_.Fin 3)) 1, .tuple [po g11, po (1 : S 2)], .tuple [po (zp 1 * g12), po (1 : S 3)]] := by
    unfold fr
    rw [po_one pr3.F, po_one pr2.F, po_cst (by decide), g11_po, z12_po]
    rfl
  rw [e]
  refine sm_list (fun x hx => ?_) (by simp)
  simp only [List.mem_cons, List.not_mem_nil, or_false] at hx
  rcases hx with rfl | rfl | rfl
  · exact sm_fr pr3 (by rw [ln_cst (by decide)]; omega) (by rw [ln_one pr3.F]; omega)
  · exact sm_fr pr2 (Nat.le_trans (ln_min g11_le) (by omega)) (by rw [ln_one pr2.F]; omega)
  · exact sm_fr pr3 (Nat.le_trans (ln_min (zp_le 1 g12_le)) (by omega)) (by rw [ln_one pr3.F]; omega)
theorem laps {p : Nat} [NeZero p] (h : Pr p) (s : Src) : ∃ env' s', evS (Ph 9) G (.for (.v 3) (.rng (.cons (.c (.int 3)) .nil)) lapB) (lwE (.int (p : Int)) .e .e .e .e .e .e .e .e .e .e) s = .ok (.next env') s' ∧ ∃ lap t1 t2 t3 t4 t5 t6 t7 t8 t9, env' = lwE (.int (p : Int)) lap t1 t2 t3 t4 t5 t6 t7 t8 t9 :=
  for_src (Φ := Ph 9) (Gg := G) (tg := .v 3) (it := .rng (.cons (.c (.int 3)) .nil)) (body := lapB) (s := s) (s1 := s) (xs := rngD 0 3)
    (fun env => ∃ lap t1 t2 t3 t4 t5 t6 t7 t8 t9, env = lwE (.int (p : Int)) lap t1 t2 t3 t4 t5 t6 t7 t8 t9)
    (rng1_e (j := 3) ev_c (by omega)) ⟨_, _, _, _, _, _, _, _, _, _, rfl⟩ (fun v env s hv ⟨lap, t1, t2, t3, t4, t5, t6, t7, t8, t9, hE⟩ => by
      subst hE
      obtain ⟨u1, u2, u3, u4, u5, u6, u7, u8, u9, s', e⟩ := lap_ok h s (.d false v) t1 t2 t3 t4 t5 t6 t7 t8 t9
      exact ⟨lwE (.int (p : Int)) (.d false v) t1 t2 t3 t4 t5 t6 t7 t8 t9, lwE (.int (p : Int)) (.d false v) u1 u2 u3 u4 u5 u6 u7 u8 u9, s', rfl, e, _, _, _, _, _, _, _, _, _, _, rfl⟩)
theorem plain (s : Src) : ∃ o s', evS (Phi P (gOf cons) 9) (gOf cons) b_law (lawE N_law.length) s = .ok (.ret o (.bool true)) s' := by
  rw [law_eq]
  show ∃ o s', evS (Ph 9) G _ ([.e, .src, .e, .e, .e, .e, .e, .e, .e, .e, .e, .e, .e] : Tre.Env) s = .ok (.ret o (.bool true)) s'
  obtain ⟨v, s1, e1, hv⟩ := of_ok 7 s [.int 2, .int 3, .int 5] (by simp) (by simp)
  have l3 : evE (Ph 9) G (.lst (.cons (.c (.int 2)) (.cons (.c (.int 3)) (.cons (.c (.int 5)) .nil)))) ([.e, .src, .e, .e, .e, .e, .e, .e, .e, .e, .e, .e, .e] : Tre.Env) s = .ok (.own, .list [.int 2, .int 3, .int 5]) s :=
    lst_e (ea_cons ev_c (ea_cons ev_c (ea_cons ev_c ea_nil))) rfl (by simp [sizeL])
  rw [seq_next (env' := lwE v .e .e .e .e .e .e .e .e .e .e) (s' := s1) (asg_e (callS1 (x := (.own, .list [.int 2, .int 3, .int 5])) (o := false) rfl l3 ownN e1) rfl)]
  obtain ⟨env', s2, e2, h2⟩ : ∃ env' s', evS (Ph 9) G (.for (.v 3) (.rng (.cons (.c (.int 3)) .nil)) lapB) (lwE v .e .e .e .e .e .e .e .e .e .e) s1 = .ok (.next env') s' ∧ ∃ lap t1 t2 t3 t4 t5 t6 t7 t8 t9, env' = lwE v lap t1 t2 t3 t4 t5 t6 t7 t8 t9 := by
    simp only [List.mem_cons, List.not_mem_nil, or_false] at hv
    rcases hv with rfl | rfl | rfl
    · exact laps pr2 s1
    · exact laps pr3 s1
    · exact laps pr5 s1
  obtain ⟨lap, t1, t2, t3, t4, t5, t6, t7, t8, t9, rfl⟩ := h2
  rw [seq_next e2]
  rw [seq_next (env' := lwE v lap (.d false endD) t2 t3 t4 t5 t6 t7 t8 t9) (s' := s2) (asg_e (endX_e _ s2) rfl)]
  exact ⟨false, s2, seq_ret (ret_e (k := .frz) (repr_eq (d := endD) (v_e rfl) (endY_e _ s2) end_sm))⟩
end K10
set_option maxHeartbeats 0
/-! K10H: the head of law k10. -/
namespace K10
open PySem PySem.Spec PyProof.Rows L2 Tre LamX
/-! ### the head -/
def top (i : Nat) : Stmt := PySem.Challenge.pw_wiredlaws_k10_fractions.main.body.getD i (.Pass ⟨0, 0, 0, 0⟩)
def ds : List Dd := [⟨"is_whole", top 5, N_is_whole⟩, ⟨"is_number", top 6, N_is_number⟩, ⟨"is_polynomial", top 7, N_is_polynomial⟩, ⟨"trimmed", top 8, N_trimmed⟩, ⟨"inverse", top 9, N_inverse⟩, ⟨"added", top 10, N_added⟩, ⟨"scaled", top 11, N_scaled⟩, ⟨"less", top 12, N_less⟩, ⟨"times", top 13, N_times⟩, ⟨"power_of", top 14, N_power_of⟩, ⟨"shifted", top 15, N_shifted⟩, ⟨"first_of", top 16, N_first_of⟩, ⟨"parted", top 17, N_parted⟩, ⟨"common", top 18, N_common⟩, ⟨"is_fraction", top 21, N_is_fraction⟩, ⟨"fraction", top 22, N_fraction⟩, ⟨"whole", top 23, N_whole⟩, ⟨"sum_of", top 24, N_sum_of⟩, ⟨"multiple", top 25, N_multiple⟩, ⟨"difference", top 26, N_difference⟩, ⟨"product", top 27, N_product⟩, ⟨"power", top 28, N_power⟩, ⟨"delayed", top 29, N_delayed⟩, ⟨"ratio", top 30, N_ratio⟩, ⟨"numbers_of", top 31, N_numbers_of⟩, ⟨"parts_at", top 32, N_parts_at⟩, ⟨"earlier", top 33, N_earlier⟩, ⟨"one_over", top 34, N_one_over⟩, ⟨"_law_pick", top 37, N__law_pick⟩, ⟨"_law_of", top 38, N__law_of⟩, ⟨"_law_is_int", top 39, N__law_is_int⟩, ⟨"_law_is_number", top 40, N__law_is_number⟩, ⟨"_law_trim", top 41, N__law_trim⟩, ⟨"_law_add", top 42, N__law_add⟩, ⟨"_law_mul", top 43, N__law_mul⟩, ⟨"_law_inverse", top 44, N__law_inverse⟩, ⟨"_law_parted", top 45, N__law_parted⟩, ⟨"_law_common", top 46, N__law_common⟩, ⟨"_law_numbers", top 47, N__law_numbers⟩, ⟨"_law_fraction", top 48, N__law_fraction⟩, ⟨"_law_polynomial", top 49, N__law_polynomial⟩, ⟨"_law_drawn", top 50, N__law_drawn⟩, ⟨"_law_power", top 51, N__law_power⟩, ⟨"_law_is_poly", top 53, N__law_is_poly⟩, ⟨"_law_is_one", top 54, N__law_is_one⟩, ⟨"_law_bent", top 55, N__law_bent⟩, ⟨"_law_polynomials_right", top 56, N__law_polynomials_right⟩, ⟨"_law_fractions_right", top 57, N__law_fractions_right⟩, ⟨"_law_moved_right", top 58, N__law_moved_right⟩]
def xcl : List (Str × List Str) := [("NotOfIt", [])]
def dd (x : Str) (i : Nat) : He.DefD := ⟨(x, none), x, x, defArgs (top i), defBody (top i), defScope (top i), [], []⟩
def fn : List He.DefD := [dd "is_whole" 5, dd "is_number" 6, dd "is_polynomial" 7, dd "trimmed" 8, dd "inverse" 9, dd "added" 10, dd "scaled" 11, dd "less" 12, dd "times" 13, dd "power_of" 14, dd "shifted" 15, dd "first_of" 16, dd "parted" 17, dd "common" 18, dd "is_fraction" 21, dd "fraction" 22, dd "whole" 23, dd "sum_of" 24, dd "multiple" 25, dd "difference" 26, dd "product" 27, dd "power" 28, dd "delayed" 29, dd "ratio" 30, dd "numbers_of" 31, dd "parts_at" 32, dd "earlier" 33, dd "one_over" 34, dd "_law_pick" 37, dd "_law_of" 38, dd "_law_is_int" 39, dd "_law_is_number" 40, dd "_law_trim" 41, dd "_law_add" 42, dd "_law_mul" 43, dd "_law_inverse" 44, dd "_law_parted" 45, dd "_law_common" 46, dd "_law_numbers" 47, dd "_law_fraction" 48, dd "_law_polynomial" 49, dd "_law_drawn" 50, dd "_law_power" 51, dd "_law_is_poly" 53, dd "_law_is_one" 54, dd "_law_bent" 55, dd "_law_polynomials_right" 56, dd "_law_fractions_right" 57, dd "_law_moved_right" 58, dd "_law_source" 36, dd "law" 59, dd "_law_told" 52]
def globs : List Str := [("is_whole" : Str), ("is_number" : Str), ("is_polynomial" : Str), ("trimmed" : Str), ("inverse" : Str), ("added" : Str), ("scaled" : Str), ("less" : Str), ("times" : Str), ("power_of" : Str), ("shifted" : Str), ("first_of" : Str), ("parted" : Str), ("common" : Str), ("is_fraction" : Str), ("fraction" : Str), ("whole" : Str), ("sum_of" : Str), ("multiple" : Str), ("difference" : Str), ("product" : Str), ("power" : Str), ("delayed" : Str), ("ratio" : Str), ("numbers_of" : Str), ("parts_at" : Str), ("earlier" : Str), ("one_over" : Str), ("_law_pick" : Str), ("_law_of" : Str), ("_law_is_int" : Str), ("_law_is_number" : Str), ("_law_trim" : Str), ("_law_add" : Str), ("_law_mul" : Str), ("_law_inverse" : Str), ("_law_parted" : Str), ("_law_common" : Str), ("_law_numbers" : Str), ("_law_fraction" : Str), ("_law_polynomial" : Str), ("_law_drawn" : Str), ("_law_power" : Str), ("_law_is_poly" : Str), ("_law_is_one" : Str), ("_law_bent" : Str), ("_law_polynomials_right" : Str), ("_law_fractions_right" : Str), ("_law_moved_right" : Str), ("_law_source" : Str), ("law" : Str), ("_law_told" : Str), ("NotOfIt" : Str)]
def fa : List He.Fa := globs.map .glo ++ bltNames.map .free
def tf : List He.Defn := [(("_law_fractions_right" : Str), none), (("_law_moved_right" : Str), none), (("law" : Str), none)]
def ex (K : PySem.W.Frag) : Bool := cons.all (fun p => cnB K p.1 p.2) && xcl.all (fun p => xcB K PySem.Challenge.pw_wiredlaws_k10_fractions.main.file p.1 p.2) && decide (tf.map fun p => (He.cT K p).2).Nodup && catB K "NotOfIt" none
abbrev R : PySem.W.OpenRow := PySem.W.OpenLaw.row PySem.Challenge.rw_wiredlaws_k10_fractions
abbrev hk : PySem.W.Hook := hookS 5 fa fn tf ex
def ob (s : PySem.W.SharedT) : He.AlX := obsS 5 fa fn tf ex (HandSHeadRun.getT s)
theorem ob_eq (s : PySem.W.SharedT) : ob s = hk.obs s.abs := obsS_eq (HandSHeadRun.getT_eq s)
def loose : List Str := [("__name__" : Str), ("WireError" : Str), ("NotOfIt" : Str), ("ONE" : Str), ("is_whole" : Str), ("is_number" : Str), ("is_polynomial" : Str), ("trimmed" : Str), ("inverse" : Str), ("added" : Str), ("scaled" : Str), ("less" : Str), ("times" : Str), ("power_of" : Str), ("shifted" : Str), ("first_of" : Str), ("parted" : Str), ("common" : Str), ("NOTHING" : Str), ("is_fraction" : Str), ("fraction" : Str), ("whole" : Str), ("sum_of" : Str), ("multiple" : Str), ("difference" : Str), ("product" : Str), ("power" : Str), ("delayed" : Str), ("ratio" : Str), ("numbers_of" : Str), ("parts_at" : Str), ("earlier" : Str), ("one_over" : Str), ("_law_source" : Str), ("_law_pick" : Str), ("_law_of" : Str), ("_law_is_int" : Str), ("_law_is_number" : Str), ("_law_trim" : Str), ("_law_add" : Str), ("_law_mul" : Str), ("_law_inverse" : Str), ("_law_parted" : Str), ("_law_common" : Str), ("_law_numbers" : Str), ("_law_fraction" : Str), ("_law_polynomial" : Str), ("_law_drawn" : Str), ("_law_power" : Str), ("_law_told" : Str), ("_law_is_poly" : Str), ("_law_is_one" : Str), ("_law_bent" : Str), ("_law_polynomials_right" : Str), ("_law_fractions_right" : Str), ("_law_moved_right" : Str)]
theorem run (w : World) : HandSHeadRun.RunEq R (PySem.W.view R.prog [59]) hk ob 3000 loose w := by
  intro os
  kernel_rfl
theorem eS : ∃ (cs : Scope) (ps : List Pos), defBody (top 36) = srcBody cs (fun i => ps.getD i ⟨0, 0, 0, 0⟩) ∧ srcB (defScope (top 36)) cs = true := ⟨_, [_, _, _, _, _, _, _, _, _, _, _, _, _, _, _, _, _, _, _, _, _, _, _, _, _, _, _, _, _, _, _, _, _, _, _, _, _, _, _, _], rfl, by decide +kernel⟩
theorem eL : ∃ p0 p1 p2 p3 p4, defBody (top 59) = .Assign [.Name "source" p0] (.Call (.Name "_law_source" p1) [.Name "script" p2] [] p3) p4 :: (defBody (top 59)).tail := ⟨_, _, _, _, _, rfl⟩
theorem eR : ∃ (j j2 k1 k2 : Nat) (ps : List Pos), defBody (top 52) = triedBody "call" "NotOfIt" "none" j (fun i => ps.getD i ⟨0, 0, 0, 0⟩) := ⟨_, 0, 0, 0, [⟨0, 0, 0, 0⟩, _, _, _, _, _, _, _, _], rfl⟩
theorem chk : okAll (ds.map (·.x)) (cnsOf cons) (xcsOf xcl) tds tf ds P = true := by decide +kernel
theorem chkL : chkSs N_law (ds.map (·.x)) (cnsOf cons) (tdFor tds tf "law") (xcsOf xcl) (defScope (top 59)) b_law (defBody (top 59)).tail = true := by decide +kernel
theorem law_at {w : World} {K : PySem.W.Frag} {mg : Str → Option Value} {h : Heap} {f : Addr} (KX : K.In h) (G0 : h.Ns mainGlobals mg) (hmg : mg "law" = some (.ref f)) (c : He.SaysX fa fn [] tf ex w h K)
    (plain : ∀ s : Src, ∃ o s', evS (Phi P (gOf cons) 9) (gOf cons) b_law (lawE N_law.length) s = .ok (.ret o (.bool true)) s') : LawG PySem.Challenge.rw_wiredlaws_k10_fractions w K (3 * 9 + 6) 63 "script" mg f h := by
  obtain ⟨cs, ps, e1, e2⟩ := eS
  obtain ⟨p0, p1, p2, p3, p4, e3⟩ := eL
  obtain ⟨j, j2, k1, k2, pr, e4⟩ := eR
  have cd := c.t.d
  have glo : ∀ x : Str, x ∈ globs → mg x = some (.ref (He.ga K x)) := fun x hx => He.glo_ok KX G0 (cd.facts (List.mem_append_left _ (List.mem_map.mpr ⟨x, hx, rfl⟩)))
  have def_ : ∀ d ∈ fn, ∃ fd, FunD K d.name d.qual d.params d.body d.scope (d.dvs K) (d.kws K) (He.fAd K d.at_) fd := fun d hd => cd.defs hd
  have ef : f = He.ga K "law" := by
    have := (glo "law" (by decide +kernel)).symm.trans hmg
    cases this
    rfl
  have more := c.more
  unfold ex at more
  simp only [Bool.and_eq_true, List.all_eq_true] at more
  obtain ⟨⟨⟨m1, m2⟩, m4⟩, m3⟩ := more
  have nd := of_decide_eq_true m4
  let td : Td := ⟨"_law_told", top 52, 0, "call", "NotOfIt", none, "none", j, j2, k1, k2, fun i => pr.getD i ⟨0, 0, 0, 0⟩⟩
  have f1 : psOf (defArgs (top 52)) = [("call" : Str)] := by decide +kernel
  have f2 : plainA (defArgs (top 52)) = true := by decide +kernel
  have f3 : C8.scC ["call"] ["call"] (defScope (top 52)) = true := by decide +kernel
  have f4 : ∀ n okS fld : Str, (none : Option (Str × Str × Str)) = some (n, okS, fld) → (defScope (top 52)).names.lookup n = some .local ∧ (n == ("__debug__" : Str)) = false ∧ (n == ("__classdict__" : Str)) = false := fun _ _ _ z => by cases z
  have f5 : (defScope (top 52)).names.lookup ("call" : Str) = some .local := by decide +kernel
  have f6 : (defScope (top 52)).names.lookup ("NotOfIt" : Str) = some .globalImplicit := by decide +kernel
  have f7 : (("_law_told" : Str) == ("__debug__" : Str)) = false := by decide +kernel
  have f8 : (("call" : Str) == ("__debug__" : Str)) = false := by decide +kernel
  have f9 : (("call" : Str) == ("__classdict__" : Str)) = false := by decide +kernel
  have f10 : (("NotOfIt" : Str) == ("__debug__" : Str)) = false := by decide +kernel
  have f13 : ("_law_told" : Str) ∈ globs := by decide +kernel
  have hdef : ∀ d ∈ ds, mg d.x = some (.ref (He.ga K d.x)) ∧ ∃ fd, FunD K d.x d.x (defArgs d.st) (defBody d.st) (defScope d.st) [] [] (He.ga K d.x) fd := by
    intro d hd
    simp only [ds, List.mem_cons, List.not_mem_nil, or_false] at hd
    rcases hd with rfl | rfl | rfl | rfl | rfl | rfl | rfl | rfl | rfl | rfl | rfl | rfl | rfl | rfl | rfl | rfl | rfl | rfl | rfl | rfl | rfl | rfl | rfl | rfl | rfl | rfl | rfl | rfl | rfl | rfl | rfl | rfl | rfl | rfl | rfl | rfl | rfl | rfl | rfl | rfl | rfl | rfl | rfl | rfl | rfl | rfl | rfl | rfl | rfl
    · exact ⟨glo "is_whole" (by decide +kernel), def_ (dd "is_whole" 5) (by simp [fn])⟩
    · exact ⟨glo "is_number" (by decide +kernel), def_ (dd "is_number" 6) (by simp [fn])⟩
    · exact ⟨glo "is_polynomial" (by decide +kernel), def_ (dd "is_polynomial" 7) (by simp [fn])⟩
    · exact ⟨glo "trimmed" (by decide +kernel), def_ (dd "trimmed" 8) (by simp [fn])⟩
    · exact ⟨glo "inverse" (by decide +kernel), def_ (dd "inverse" 9) (by simp [fn])⟩
    · exact ⟨glo "added" (by decide +kernel), def_ (dd "added" 10) (by simp [fn])⟩
    · exact ⟨glo "scaled" (by decide +kernel), def_ (dd "scaled" 11) (by simp [fn])⟩
    · exact ⟨glo "less" (by decide +kernel), def_ (dd "less" 12) (by simp [fn])⟩
    · exact ⟨glo "times" (by decide +kernel), def_ (dd "times" 13) (by simp [fn])⟩
    · exact ⟨glo "power_of" (by decide +kernel), def_ (dd "power_of" 14) (by simp [fn])⟩
    · exact ⟨glo "shifted" (by decide +kernel), def_ (dd "shifted" 15) (by simp [fn])⟩
    · exact ⟨glo "first_of" (by decide +kernel), def_ (dd "first_of" 16) (by simp [fn])⟩
    · exact ⟨glo "parted" (by decide +kernel), def_ (dd "parted" 17) (by simp [fn])⟩
    · exact ⟨glo "common" (by decide +kernel), def_ (dd "common" 18) (by simp [fn])⟩
    · exact ⟨glo "is_fraction" (by decide +kernel), def_ (dd "is_fraction" 21) (by simp [fn])⟩
    · exact ⟨glo "fraction" (by decide +kernel), def_ (dd "fraction" 22) (by simp [fn])⟩
    · exact ⟨glo "whole" (by decide +kernel), def_ (dd "whole" 23) (by simp [fn])⟩
    · exact ⟨glo "sum_of" (by decide +kernel), def_ (dd "sum_of" 24) (by simp [fn])⟩
    · exact ⟨glo "multiple" (by decide +kernel), def_ (dd "multiple" 25) (by simp [fn])⟩
    · exact ⟨glo "difference" (by decide +kernel), def_ (dd "difference" 26) (by simp [fn])⟩
    · exact ⟨glo "product" (by decide +kernel), def_ (dd "product" 27) (by simp [fn])⟩
    · exact ⟨glo "power" (by decide +kernel), def_ (dd "power" 28) (by simp [fn])⟩
    · exact ⟨glo "delayed" (by decide +kernel), def_ (dd "delayed" 29) (by simp [fn])⟩
    · exact ⟨glo "ratio" (by decide +kernel), def_ (dd "ratio" 30) (by simp [fn])⟩
    · exact ⟨glo "numbers_of" (by decide +kernel), def_ (dd "numbers_of" 31) (by simp [fn])⟩
    · exact ⟨glo "parts_at" (by decide +kernel), def_ (dd "parts_at" 32) (by simp [fn])⟩
    · exact ⟨glo "earlier" (by decide +kernel), def_ (dd "earlier" 33) (by simp [fn])⟩
    · exact ⟨glo "one_over" (by decide +kernel), def_ (dd "one_over" 34) (by simp [fn])⟩
    · exact ⟨glo "_law_pick" (by decide +kernel), def_ (dd "_law_pick" 37) (by simp [fn])⟩
    · exact ⟨glo "_law_of" (by decide +kernel), def_ (dd "_law_of" 38) (by simp [fn])⟩
    · exact ⟨glo "_law_is_int" (by decide +kernel), def_ (dd "_law_is_int" 39) (by simp [fn])⟩
    · exact ⟨glo "_law_is_number" (by decide +kernel), def_ (dd "_law_is_number" 40) (by simp [fn])⟩
    · exact ⟨glo "_law_trim" (by decide +kernel), def_ (dd "_law_trim" 41) (by simp [fn])⟩
    · exact ⟨glo "_law_add" (by decide +kernel), def_ (dd "_law_add" 42) (by simp [fn])⟩
    · exact ⟨glo "_law_mul" (by decide +kernel), def_ (dd "_law_mul" 43) (by simp [fn])⟩
    · exact ⟨glo "_law_inverse" (by decide +kernel), def_ (dd "_law_inverse" 44) (by simp [fn])⟩
    · exact ⟨glo "_law_parted" (by decide +kernel), def_ (dd "_law_parted" 45) (by simp [fn])⟩
    · exact ⟨glo "_law_common" (by decide +kernel), def_ (dd "_law_common" 46) (by simp [fn])⟩
    · exact ⟨glo "_law_numbers" (by decide +kernel), def_ (dd "_law_numbers" 47) (by simp [fn])⟩
    · exact ⟨glo "_law_fraction" (by decide +kernel), def_ (dd "_law_fraction" 48) (by simp [fn])⟩
    · exact ⟨glo "_law_polynomial" (by decide +kernel), def_ (dd "_law_polynomial" 49) (by simp [fn])⟩
    · exact ⟨glo "_law_drawn" (by decide +kernel), def_ (dd "_law_drawn" 50) (by simp [fn])⟩
    · exact ⟨glo "_law_power" (by decide +kernel), def_ (dd "_law_power" 51) (by simp [fn])⟩
    · exact ⟨glo "_law_is_poly" (by decide +kernel), def_ (dd "_law_is_poly" 53) (by simp [fn])⟩
    · exact ⟨glo "_law_is_one" (by decide +kernel), def_ (dd "_law_is_one" 54) (by simp [fn])⟩
    · exact ⟨glo "_law_bent" (by decide +kernel), def_ (dd "_law_bent" 55) (by simp [fn])⟩
    · exact ⟨glo "_law_polynomials_right" (by decide +kernel), def_ (dd "_law_polynomials_right" 56) (by simp [fn])⟩
    · exact ⟨glo "_law_fractions_right" (by decide +kernel), def_ (dd "_law_fractions_right" 57) (by simp [fn])⟩
    · exact ⟨glo "_law_moved_right" (by decide +kernel), def_ (dd "_law_moved_right" 58) (by simp [fn])⟩
  have hsup : ∀ p ∈ xcl, xcB K (PySem.Challenge.rw_wiredlaws_k10_fractions).prog.main.file p.1 p.2 = true ∧ mg p.1 = some (.ref (He.ga K p.1)) ∧ (p.1 == ("__debug__" : Str)) = false := by
    intro p hp
    refine ⟨m2 p hp, ?_⟩
    simp only [xcl, List.mem_cons, List.not_mem_nil, or_false] at hp
    rcases hp with rfl
    · exact ⟨glo "NotOfIt" (by decide +kernel), by decide +kernel⟩
  refine lawG_of (l := PySem.Challenge.rw_wiredlaws_k10_fractions) (kP := 9) (P := P) (cons := cons) (xcl := xcl) (ds := ds) (tdl := [td]) (stS := top 36) (stL := top 59) (N := N_law) (bL := b_law) KX G0 hmg (by decide) (fun x hx => He.free_ok KX G0 (cd.facts (List.mem_append_right _ (List.mem_map.mpr ⟨x, hx, rfl⟩)))) m1 tf hdef chk (by decide +kernel) (by decide +kernel) hsup (by decide +kernel)
    (glo _ (by decide +kernel)) (def_ (dd "_law_source" 36) (by simp [fn])) e1 (by decide +kernel) (by decide +kernel) (by decide +kernel) e2
    (by rw [ef]; exact def_ (dd "law" 59) (by simp [fn])) e3 (by decide +kernel) (by decide +kernel) (by decide +kernel) (by decide +kernel) (by decide +kernel) (by first | exact .inl (by decide +kernel) | exact .inr (by decide +kernel)) (by decide +kernel) chkL
    (fun t ht => by obtain rfl := List.mem_singleton.mp ht; exact ⟨e4, f1, f2, f3, f4, f5, f6, rfl, f7, f8, f9, f10⟩) (fun t ht => by obtain rfl := List.mem_singleton.mp ht; exact ⟨glo _ f13, def_ (dd "_law_told" 52) (by simp [fn]), m3⟩) nd ef c.hd c.out c.empty plain
end K10
open PySem PySem.W PySem.Calls PyProof.Rows
theorem K10_holds (plain : ∀ s : Tre.Src, ∃ o s', Tre.evS (Tre.Phi K10.P (Tre.gOf K10.cons) 9) (Tre.gOf K10.cons) K10.b_law (Tre.lawE K10.N_law.length) s = .ok (.ret o (.bool true)) s') : PySem.Challenge.rw_wiredlaws_k10_fractions.Holds := by
  w_on; o_law
  refine HandSHeadRun.head_any (r := OpenLaw.row PySem.Challenge.rw_wiredlaws_k10_fractions) (q := view (OpenLaw.row PySem.Challenge.rw_wiredlaws_k10_fractions).prog [59]) (H := K10.hk) (ob := K10.ob) (M := 3000) (loose := K10.loose) (d := HandSHeadRun.topDef (OpenLaw.row PySem.Challenge.rw_wiredlaws_k10_fractions).prog 59) (kwd := []) K10.ob_eq
    (by kernel_rfl) (fun s => by kernel_rfl) K10.run (by kernel_rfl) (by kernel_rfl) (by kernel_rfl) (by rfl) (by first | assumption | decide +kernel) (by decide +kernel) ⟨rfl, rfl, rfl, rfl, rfl, by decide +kernel⟩ ?hw ?hc
  case hw => w_witness2
  case hc =>
    refine Tre.walk_G (l := PySem.Challenge.rw_wiredlaws_k10_fractions) (n := 63) (k := 3 * 9 + 6) (x := "script") rfl (by decide) (by kernel_rfl) ⟨rfl, by decide, by decide⟩ ?F
    intro w mg fa h Y G hmg0
    obtain ⟨K, KX, c⟩ := Y
    have hmg : mg ("law" : PySem.Str) = some (.ref fa) := by
      have e : (HandSHeadRun.topDef (OpenLaw.row PySem.Challenge.rw_wiredlaws_k10_fractions).prog 59).name = ("law" : PySem.Str) := by kernel_rfl
      rw [← e]
      exact hmg0
    exact ⟨K, KX, K10.law_at KX G hmg c plain⟩
set_option maxHeartbeats 0
theorem PySem.Challenge.cw_wiredlaws_k10_fractions_holds : PySem.Challenge.rw_wiredlaws_k10_fractions.Holds := by
  exact K10_holds K10.plain
